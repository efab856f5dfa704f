import PyProof.Rows.All
import Wide.All
import OpenK.AllK
import Wide.FinOn
import HandS.ForMost
import HandS.Evl
import HandS.Wide
import HandS.Exc
import HandS.ExcOwn
import HandS.WordsExc
import HandS.TupAny
import HandS.TupMul
import HandS.IsInst
import HandS.Style
import HandS.Dict
import HandS.Text
import HandS.Comp
import HandS.SetKeys
import KE.KDictPairs
import HandS.Ends
import HandS.EndBits
import PySem.Challenge.RW_layoutswap_k30_trees_recognized
set_option Elab.async false
set_option maxRecDepth 100000
set_option maxHeartbeats 4000000
/-! DL: a layer of data over the hand layer: values as trees (D), objects that one name owns (Own), readings as predicate transformers over them. -/
namespace DL
open PySem PySem.Spec PyProof.Rows L2

/-! ### data -/
inductive D where
  | non | bl (b : Bool) | int (i : Int) | str (x : Str)
  | lst (l : List D) | tup (l : List D) | dct (l : List (Key × D)) | ins (C : Addr) (l : List (Str × D))
  /-- a list that is read alone (the script) -/
  | fzl (l : List D)
  /-- a tuple that an iterator made -/
  | wt (l : List D)
  /-- a built-in type, a class of the program's -/
  | ty (n : String) | cls (C : Addr)
/-- an object that one name holds alone -/
inductive Own where
  | lst (l : List D) | dct (l : List (Key × D)) | ins (C : Addr) (l : List (Str × D))
def Own.d : Own → D
  | .lst l => .lst l
  | .dct l => .dct l
  | .ins C l => .ins C l
/-- what a slot holds -/
inductive Sl where
  | no | dat (d : D) | own (o : Own)
abbrev Rho := List Sl
/-- what an expression hands on: data, a new object, the object of a slot -/
inductive R where
  | dat (d : D) | own (o : Own) | bor (i : Nat)
/-- what an operation gives: data, a new object, a new tuple -/
inductive Z where
  | d (d : D) | n (o : Own) | t (l : List D) | w (l : List D)
def Z.r : Z → R
  | .d x => .dat x
  | .n o => .own o
  | .t l => .dat (.tup l)
  | .w l => .dat (.wt l)
def lk {α : Type} : Option α → (α → Prop) → Prop
  | some a, k => k a
  | none, _ => False
theorem lk_some {α : Type} {a : α} {k : α → Prop} : lk (some a) k = k a := rfl
theorem lk_get {α : Type} {x : Option α} {k : α → Prop} (h : lk x k) : ∃ a, x = some a ∧ k a := by
  cases x with
  | none => exact h.elim
  | some a => exact ⟨a, rfl, h⟩
theorem lk_of {α : Type} {x : Option α} {k : α → Prop} {a : α} (e : x = some a) (h : k a) : lk x k := by rw [e]; exact h
def Sl.con : Sl → Option D
  | .no => none
  | .dat d => some d
  | .own o => some o.d
/-- what stands behind an answer just now -/
def con (ρ : Rho) : R → Option D
  | .dat d => some d
  | .own o => some o.d
  | .bor i => match ρ[i]? with
    | some (.own o) => some o.d
    | some (.dat d) => some d
    | _ => none

/-! ### how data lie in a heap -/
def Ex (G H : Hp) : Prop := ∀ a o, G a = some o → H a = some o
theorem Ex.refl (G : Hp) : Ex G G := fun _ _ h => h
theorem Ex.trans {G H J : Hp} (a : Ex G H) (b : Ex H J) : Ex G J := fun x o h => b x o (a x o h)
theorem Ex.gone {G H : Hp} (e : Ex G H) {a : Addr} (h : H a = none) : G a = none := by
  cases q : G a with
  | none => rfl
  | some o => rw [e a o q] at h; cases h
theorem Ex.put {G : Hp} {p : Addr} {o : HO} (h : G p = none) : Ex G (upd G p o) := fun b u q => by
  rw [upd_ne (ne_of_none q h)]; exact q
theorem Ex.both {G H : Hp} {p : Addr} {o : HO} (e : Ex G H) (h : H p = some o) : Ex (upd G p o) H := fun b u q => by
  by_cases hb : b = p
  · subst hb; rw [upd_same] at q; cases q; exact h
  · rw [upd_ne hb] at q; exact e b u q
theorem Ex.over {G H : Hp} {p : Addr} {o : HO} (e : Ex G H) (h : G p = none) : Ex G (upd H p o) := fun b u q => by
  rw [upd_ne (ne_of_none q h)]; exact e b u q
theorem Ex.two {G H : Hp} {p : Addr} {o : HO} (e : Ex G H) : Ex (upd G p o) (upd H p o) := fun b u q => by
  by_cases hb : b = p
  · subst hb; rw [upd_same] at q ⊢; exact q
  · rw [upd_ne hb] at q ⊢; exact e b u q
theorem Ex.rd {G H : Hp} {a : Addr} {u : HO} (e : Ex G H) (h : Rd G a u) : Rd H a u := by
  rcases h with h | ⟨o, h⟩
  · exact .inl (e _ _ h)
  · exact .inr ⟨o, e _ _ h⟩
theorem Ex.sql {K : PySem.W.Frag} {G H : Hp} {a : Addr} {xs : List V} (e : Ex G H) (h : SqL K G a xs) : SqL K H a xs := by
  rcases h with h | h
  · exact .inl (e.rd h)
  · exact .inr h
theorem Ex.sqt {K : PySem.W.Frag} {G H : Hp} {a : Addr} {xs : List V} (e : Ex G H) (h : SqT K G a xs) : SqT K H a xs := by
  rcases h with h | h
  · exact .inl (e.rd h)
  · exact .inr h

/-- a tuple with no dict of its own -/
def SqP (K : PySem.W.Frag) (G : Hp) (a : Addr) (xs : List V) : Prop := SqT K G a xs ∧ ((∃ o u, G a = some (.frz o u) ∧ o.dict = none) ∨ ∃ o, K.lookup a = some o ∧ o.dict = none)
theorem Ex.sqp {K : PySem.W.Frag} {G H : Hp} {a : Addr} {xs : List V} (e : Ex G H) (h : SqP K G a xs) : SqP K H a xs := by
  refine ⟨e.sqt h.1, ?_⟩
  rcases h.2 with ⟨o, u, h1, h2⟩ | h
  · exact .inl ⟨o, u, e _ _ h1, h2⟩
  · exact .inr h
theorem SqP.new {K : PySem.W.Frag} {G : Hp} {p : Addr} {o : Obj} {xs : List V} (h : o.dict = none) : SqP K (upd G p (.frz o (.tup xs))) p xs := ⟨.inl (.inr ⟨o, upd_same⟩), .inl ⟨o, _, upd_same, h⟩⟩

mutual
inductive Rp (K : PySem.W.Frag) (G : Hp) : V → D → Prop
  | non : Rp K G .non .non
  | bl (b : Bool) : Rp K G (.bl b) (.bl b)
  | int (i : Int) : Rp K G (.int i) (.int i)
  | str (x : Str) : Rp K G (.str x) (.str x)
  | lst {a : Addr} {xs : List V} {ds : List D} : G a = some (.lst xs) → RpA K G xs ds → Rp K G (.ref a) (.lst ds)
  | fzl {a : Addr} {xs : List V} {ds : List D} : SqL K G a xs → RpA K G xs ds → Rp K G (.ref a) (.fzl ds)
  | tup {a : Addr} {xs : List V} {ds : List D} : SqP K G a xs → RpA K G xs ds → Rp K G (.ref a) (.tup ds)
  | wt {a : Addr} {xs : List V} {ds : List D} : SqT K G a xs → RpA K G xs ds → Rp K G (.ref a) (.wt ds)
  | ty (n : String) : Rp K G (.ty n) (.ty n)
  | cls (C : Addr) : Rp K G (.ref C) (.cls C)
  | dct {a : Addr} {ks : List (Key × V)} {ds : List (Key × D)} : G a = some (.dK ks) → RpK K G ks ds → Rp K G (.ref a) (.dct ds)
  | ins {a C dx : Addr} {fs : List (Str × V)} {ds : List (Str × D)} : G a = some (.ins C dx fs) → RpF K G fs ds → Rp K G (.ref a) (.ins C ds)
inductive RpA (K : PySem.W.Frag) (G : Hp) : List V → List D → Prop
  | nil : RpA K G [] []
  | cons {v : V} {vs : List V} {d : D} {ds : List D} : Rp K G v d → RpA K G vs ds → RpA K G (v :: vs) (d :: ds)
inductive RpK (K : PySem.W.Frag) (G : Hp) : List (Key × V) → List (Key × D) → Prop
  | nil : RpK K G [] []
  | cons {k : Key} {v : V} {vs : List (Key × V)} {d : D} {ds : List (Key × D)} : Rp K G v d → RpK K G vs ds → RpK K G ((k, v) :: vs) ((k, d) :: ds)
inductive RpF (K : PySem.W.Frag) (G : Hp) : List (Str × V) → List (Str × D) → Prop
  | nil : RpF K G [] []
  | cons {k : Str} {v : V} {vs : List (Str × V)} {d : D} {ds : List (Str × D)} : Rp K G v d → RpF K G vs ds → RpF K G ((k, v) :: vs) ((k, d) :: ds)
end

section
variable {K : PySem.W.Frag} {G H : Hp}
mutual
theorem Rp.up (e : Ex G H) : ∀ {v : V} {d : D}, Rp K G v d → Rp K H v d
  | _, _, .non => .non
  | _, _, .bl b => .bl b
  | _, _, .int i => .int i
  | _, _, .str x => .str x
  | _, _, .lst h r => .lst (e _ _ h) (RpA.up e r)
  | _, _, .fzl h r => .fzl (e.sql h) (RpA.up e r)
  | _, _, .tup h r => .tup (e.sqp h) (RpA.up e r)
  | _, _, .wt h r => .wt (e.sqt h) (RpA.up e r)
  | _, _, .ty n => .ty n
  | _, _, .cls C => .cls C
  | _, _, .dct h r => .dct (e _ _ h) (RpK.up e r)
  | _, _, .ins h r => .ins (e _ _ h) (RpF.up e r)
theorem RpA.up (e : Ex G H) : ∀ {v : List V} {d : List D}, RpA K G v d → RpA K H v d
  | _, _, .nil => .nil
  | _, _, .cons h r => .cons (Rp.up e h) (RpA.up e r)
theorem RpK.up (e : Ex G H) : ∀ {v : List (Key × V)} {d : List (Key × D)}, RpK K G v d → RpK K H v d
  | _, _, .nil => .nil
  | _, _, .cons h r => .cons (Rp.up e h) (RpK.up e r)
theorem RpF.up (e : Ex G H) : ∀ {v : List (Str × V)} {d : List (Str × D)}, RpF K G v d → RpF K H v d
  | _, _, .nil => .nil
  | _, _, .cons h r => .cons (Rp.up e h) (RpF.up e r)
end
end

inductive RpO (K : PySem.W.Frag) (G : Hp) : HO → Own → Prop
  | lst {xs : List V} {ds : List D} : RpA K G xs ds → RpO K G (.lst xs) (.lst ds)
  | dct {ks : List (Key × V)} {ds : List (Key × D)} : RpK K G ks ds → RpO K G (.dK ks) (.dct ds)
  | ins {C dx : Addr} {fs : List (Str × V)} {ds : List (Str × D)} : RpF K G fs ds → RpO K G (.ins C dx fs) (.ins C ds)
section
variable {K : PySem.W.Frag} {G H : Hp} {h : HO} {o : Own} {a : Addr}
theorem RpO.up (e : Ex G H) (r : RpO K G h o) : RpO K H h o := by
  cases r with
  | lst r => exact .lst (r.up e)
  | dct r => exact .dct (r.up e)
  | ins r => exact .ins (r.up e)
/-- held by nobody alone: data -/
theorem RpO.froz (hn : G a = none) (r : RpO K G h o) : Rp K (upd G a h) (.ref a) o.d := by
  have e : Ex G (upd G a h) := Ex.put hn
  cases r with
  | lst r => exact .lst upd_same (r.up e)
  | dct r => exact .dct upd_same (r.up e)
  | ins r => exact .ins upd_same (r.up e)
end

/-- a value whose own object may be a slot's, its parts data -/
def Rc (K : PySem.W.Frag) (H G : Hp) (v : V) (d : D) : Prop :=
  Rp K G v d ∨ ∃ a h o, v = .ref a ∧ H a = some h ∧ RpO K G h o ∧ o.d = d

/-! ### a frame's slots -/
structure Bas where
  /-- what a def keeps as it is -/
  B : Hp
  /-- the data at the entry -/
  G0 : Hp
  /-- the parameters that are handed on by reference -/
  kp : List (Nat × Addr)
structure Rel (K : PySem.W.Frag) (b : Bas) (σ : L2.St) (H G : Hp) (ρ : Rho) : Prop where
  sub : Ex G H
  bas : Ex b.B H
  gro : Ex b.G0 G
  prt : ∀ a, b.B a ≠ none → b.G0 a = none → G a = none
  len : σ.length = ρ.length
  dat : ∀ (i : Nat) (d : D), ρ[i]? = some (.dat d) → ∃ v, σ[i]? = some (some v) ∧ Rp K G v d
  own : ∀ (i : Nat) (o : Own), ρ[i]? = some (.own o) → ∃ a h, σ[i]? = some (some (.ref a)) ∧ H a = some h ∧ G a = none ∧ b.B a = none ∧ RpO K G h o
  dis : ∀ (i j : Nat) (o o' : Own) (a : Addr), ρ[i]? = some (.own o) → ρ[j]? = some (.own o') → σ[i]? = some (some (.ref a)) → σ[j]? = some (some (.ref a)) → i = j
  kep : ∀ p ∈ b.kp, σ[p.1]? = some (some (.ref p.2)) ∧ ∃ o, ρ[p.1]? = some (.own o)
def Rv (K : PySem.W.Frag) (b : Bas) (σ : L2.St) (J H G : Hp) (ρ : Rho) (v : V) : R → Prop
  | .dat d => Rp K G v d
  | .own o => ∃ a h, v = .ref a ∧ H a = some h ∧ G a = none ∧ b.B a = none ∧ RpO K G h o ∧ (∀ (i : Nat) (o' : Own), ρ[i]? = some (.own o') → σ[i]? ≠ some (some (.ref a))) ∧ J a = none
  | .bor i => σ[i]? = some (some v)
/-- what an expression leaves as it was -/
structure Fm (σ : L2.St) (ρ : Rho) (H G : Hp) (ρ' : Rho) (H' G' : Hp) : Prop where
  ex : Ex G G'
  kp : ∀ (a : Addr) (o : HO), H a = some o → (∀ (i : Nat) (o' : Own), ρ[i]? = some (.own o') → σ[i]? ≠ some (some (.ref a))) → H' a = some o ∧ (G a = none → G' a = none)
  ow : ∀ (i : Nat) (o' : Own), ρ'[i]? = some (.own o') → ∃ o, ρ[i]? = some (.own o)
  dm : ∀ (a : Addr), H' a = none → H a = none
theorem Fm.refl (σ : L2.St) (ρ : Rho) (H G : Hp) : Fm σ ρ H G ρ H G := ⟨Ex.refl G, fun _ _ h _ => ⟨h, fun z => z⟩, fun _ o h => ⟨o, h⟩, fun _ h => h⟩
theorem Fm.trans {σ : L2.St} {ρ ρ1 ρ2 : Rho} {H G H1 G1 H2 G2 : Hp} (x : Fm σ ρ H G ρ1 H1 G1) (y : Fm σ ρ1 H1 G1 ρ2 H2 G2) : Fm σ ρ H G ρ2 H2 G2 where
  ex := x.ex.trans y.ex
  kp := fun a o h n => by
    obtain ⟨h1, g1⟩ := x.kp a o h n
    obtain ⟨h2, g2⟩ := y.kp a o h1 fun i o' q => by
      obtain ⟨o'', q⟩ := x.ow i o' q
      exact n i o'' q
    exact ⟨h2, fun z => g2 (g1 z)⟩
  ow := fun i o' h => by
    obtain ⟨o1, h1⟩ := y.ow i o' h
    exact x.ow i o1 h1
  dm := fun a h => x.dm a (y.dm a h)
section
variable {K : PySem.W.Frag} {b : Bas} {σ : L2.St} {H G : Hp} {ρ : Rho}
/-- an object that no slot holds is data from now on -/
theorem Rel.froz {a : Addr} {h : HO} (r : Rel K b σ H G ρ) (ha : H a = some h) (hg : G a = none) (hb : b.B a = none) (hs : ∀ (i : Nat) (o' : Own), ρ[i]? = some (.own o') → σ[i]? ≠ some (some (.ref a))) : Rel K b σ H (upd G a h) ρ where
  sub := r.sub.both ha
  bas := r.bas
  gro := r.gro.trans (Ex.put hg)
  prt := fun c h1 h2 => by
    rw [upd_ne (fun e => h1 (by rw [e]; exact hb))]; exact r.prt c h1 h2
  len := r.len
  dat := fun i d e => by
    obtain ⟨v, h1, h2⟩ := r.dat i d e
    exact ⟨v, h1, h2.up (Ex.put hg)⟩
  own := fun i o e => by
    obtain ⟨c, hc, h1, h2, h3, h4, h5⟩ := r.own i o e
    have hne : c ≠ a := fun z => by subst z; exact hs i o e h1
    exact ⟨c, hc, h1, h2, by rw [upd_ne hne]; exact h3, h4, h5.up (Ex.put hg)⟩
  dis := r.dis
  kep := r.kep
/-- a new object that nobody tracks yet -/
theorem Rel.new {p : Addr} {h : HO} (r : Rel K b σ H G ρ) (hp : H p = none) : Rel K b σ (upd H p h) G ρ where
  sub := r.sub.over (r.sub.gone hp)
  bas := r.bas.over (r.bas.gone hp)
  gro := r.gro
  prt := r.prt
  len := r.len
  dat := r.dat
  own := fun i o e => by
    obtain ⟨c, hc, h1, h2, h3⟩ := r.own i o e
    exact ⟨c, hc, h1, by rw [upd_ne (ne_of_none h2 hp)]; exact h2, h3⟩
  dis := r.dis
  kep := r.kep
theorem Rel.apart {p : Addr} (r : Rel K b σ H G ρ) (hp : H p = none) : ∀ (i : Nat) (o' : Own), ρ[i]? = some (.own o') → σ[i]? ≠ some (some (.ref p)) := fun i o e z => by
  obtain ⟨c, hc, h1, h2, _⟩ := r.own i o e
  rw [h1] at z
  cases z
  rw [hp] at h2; cases h2
/-- a new object, data at once -/
theorem Rel.newD {p : Addr} {h : HO} (r : Rel K b σ H G ρ) (hp : H p = none) : Rel K b σ (upd H p h) (upd G p h) ρ :=
  (r.new hp).froz upd_same (r.sub.gone hp) (r.bas.gone hp) (r.apart hp)
theorem Rv.rc {v : V} {r : R} {d : D} {J : Hp} (w : Rel K b σ H G ρ) (q : Rv K b σ J H G ρ v r) (e : con ρ r = some d) : Rc K H G v d := by
  cases r with
  | dat d' => cases e; exact .inl q
  | own o =>
    cases e
    obtain ⟨a, h, rfl, h1, h2, h3, h4, h5⟩ := q
    exact .inr ⟨a, h, o, rfl, h1, h4, rfl⟩
  | bor i =>
    have q' : σ[i]? = some (some v) := q
    unfold con at e
    dsimp only at e
    split at e
    · rename_i o ho
      cases e
      obtain ⟨a, h, h1, h2, h3, h4, h5⟩ := w.own i o ho
      rw [h1] at q'
      cases q'
      exact .inr ⟨a, h, o, rfl, h2, h5, rfl⟩
    · rename_i x hx
      cases e
      obtain ⟨u, h1, h2⟩ := w.dat i _ hx
      rw [h1] at q'
      cases q'
      exact .inl h2
    · cases e
/-- an answer that is kept while another expression runs -/
theorem Rv.stay {v : V} {r : R} {J H' G' : Hp} {ρ' : Rho} (q : Rv K b σ J H G ρ v r) (m : Fm σ ρ H G ρ' H' G') : Rv K b σ J H' G' ρ' v r := by
  cases r with
  | dat d => exact Rp.up m.ex q
  | own o =>
    obtain ⟨a, h, rfl, h1, h2, h3, h4, h5, h6⟩ := q
    obtain ⟨z1, z2⟩ := m.kp a h h1 h5
    exact ⟨a, h, rfl, z1, z2 h2, h3, h4.up m.ex, fun i o' z => by
      obtain ⟨o'', z⟩ := m.ow i o' z
      exact h5 i o'' z, h6⟩
  | bor i => exact q
/-- seen from further ahead -/
theorem Rv.back {v : V} {r : R} {J J' : Hp} (q : Rv K b σ J H G ρ v r) (h : ∀ a, J a = none → J' a = none) : Rv K b σ J' H G ρ v r := by
  cases r with
  | dat d => exact q
  | bor i => exact q
  | own o =>
    obtain ⟨a, h', rfl, h1, h2, h3, h4, h5, h6⟩ := q
    exact ⟨a, h', rfl, h1, h2, h3, h4, h5, h _ h6⟩
theorem Rel.newF {p : Addr} {h : HO} (r : Rel K b σ H G ρ) (hp : H p = none) : Fm σ ρ H G ρ (upd H p h) G :=
  ⟨Ex.refl G, fun a o q _ => ⟨by rw [upd_ne (ne_of_none q hp)]; exact q, fun z => z⟩, fun _ o q => ⟨o, q⟩, fun a q => by
    by_cases e : a = p
    · subst e; exact hp
    · rw [upd_ne e] at q; exact q⟩
theorem Rel.newFD {p : Addr} {h : HO} (r : Rel K b σ H G ρ) (hp : H p = none) : Fm σ ρ H G ρ (upd H p h) (upd G p h) :=
  ⟨Ex.put (r.sub.gone hp), fun a o q _ => ⟨by rw [upd_ne (ne_of_none q hp)]; exact q, fun z => by rw [upd_ne (ne_of_none q hp)]; exact z⟩, fun _ o q => ⟨o, q⟩, (r.newF (h := h) hp).dm⟩
end

/-! ### readings over data -/
abbrev TD := Rho → (R → Rho → Prop) → Prop
abbrev TTD := Rho → (Bool → Rho → Prop) → Prop
abbrev TAD := Rho → (List R → Rho → Prop) → Prop
structure EndsD where
  nx : Rho → Prop
  rt : R → Rho → Prop
  bk : Rho → Prop := fun _ => False
  ct : Rho → Prop := fun _ => False
abbrev SD := EndsD → Rho → Prop

def lift (K : PySem.W.Frag) (b : Bas) (td : TD) : TE := fun σ H Q => ∃ G ρ QD, Rel K b σ H G ρ ∧ td ρ QD ∧
  ∀ v H' G' r ρ', Rel K b σ H' G' ρ' → Fm σ ρ H G ρ' H' G' → Rv K b σ H H' G' ρ' v r → QD r ρ' → Q v H'
def liftT (K : PySem.W.Frag) (b : Bas) (td : TTD) : TT := fun σ H Q => ∃ G ρ QD, Rel K b σ H G ρ ∧ td ρ QD ∧
  ∀ c H' G' ρ', Rel K b σ H' G' ρ' → Fm σ ρ H G ρ' H' G' → QD c ρ' → Q c H'
/-- what the answers of an argument list are -/
inductive RvA (K : PySem.W.Frag) (b : Bas) (σ : L2.St) (J H G : Hp) (ρ : Rho) : List V → List R → Prop
  | nil : RvA K b σ J H G ρ [] []
  | cons {v : V} {vs : List V} {r : R} {rs : List R} : Rv K b σ J H G ρ v r → (∀ (a : Addr) (o : Own), r = .own o → v = .ref a → ∀ (j : Nat) (o' : Own), rs[j]? = some (.own o') → vs[j]? ≠ some (.ref a)) →
      RvA K b σ J H G ρ vs rs → RvA K b σ J H G ρ (v :: vs) (r :: rs)
def liftA (K : PySem.W.Frag) (b : Bas) (td : TAD) : TA := fun σ H Q => ∃ G ρ QD, Rel K b σ H G ρ ∧ td ρ QD ∧
  ∀ vs H' G' rs ρ', Rel K b σ H' G' ρ' → Fm σ ρ H G ρ' H' G' → RvA K b σ H H' G' ρ' vs rs → QD rs ρ' → Q vs H'
def liftS (K : PySem.W.Frag) (b : Bas) (sd : SD) : TS := fun D σ H => ∃ G ρ DD, Rel K b σ H G ρ ∧ sd DD ρ ∧
  (∀ σ' H' G' ρ', Rel K b σ' H' G' ρ' → Ex G G' → DD.nx ρ' → D.nx σ' H') ∧
  (∀ v σ' H' G' r ρ' J, Rel K b σ' H' G' ρ' → Ex G G' → Rv K b σ' J H' G' ρ' v r → DD.rt r ρ' → D.rt v H') ∧
  (∀ σ' H' G' ρ', Rel K b σ' H' G' ρ' → Ex G G' → DD.bk ρ' → D.bk σ' H') ∧
  (∀ σ' H' G' ρ', Rel K b σ' H' G' ρ' → Ex G G' → DD.ct ρ' → D.ct σ' H')

abbrev PD (X : Cx) (b : Bas) (e : Expr) (td : TD) : Prop := PE X e (lift X.K b td)
abbrev PTD (X : Cx) (b : Bas) (e : Expr) (td : TTD) : Prop := PT X e (liftT X.K b td)
abbrev PAD (X : Cx) (b : Bas) (es : List Expr) (td : TAD) : Prop := PA X es (liftA X.K b td)
abbrev PSD (X : Cx) (b : Bas) (st : Stmt) (sd : SD) : Prop := PS X st (liftS X.K b sd)
abbrev PSsD (X : Cx) (b : Bas) (st : List Stmt) (sd : SD) : Prop := PSs X st (liftS X.K b sd)

theorem pe_weak {X : Cx} {e : Expr} {t t' : TE} (h : PE X e t) (w : ∀ σ H Q, t' σ H Q → t σ H Q) : PE X e t' := ⟨fun pins s σ H Q I q => h.run pins s σ H Q I (w σ H Q q)⟩
theorem pt_weak {X : Cx} {e : Expr} {t t' : TT} (h : PT X e t) (w : ∀ σ H Q, t' σ H Q → t σ H Q) : PT X e t' := ⟨fun pins s σ H Q I q => h.run pins s σ H Q I (w σ H Q q)⟩
theorem pa_weak {X : Cx} {e : List Expr} {t t' : TA} (h : PA X e t) (w : ∀ σ H Q, t' σ H Q → t σ H Q) : PA X e t' := ⟨fun pos pins s σ H Q I q => h.run pos pins s σ H Q I (w σ H Q q)⟩
theorem ps_weak {X : Cx} {e : Stmt} {t t' : TS} (h : PS X e t) (w : ∀ D σ H, t' D σ H → t D σ H) : PS X e t' := ⟨fun pins s σ H D I q => h.run pins s σ H D I (w D σ H q)⟩
theorem pss_weak {X : Cx} {e : List Stmt} {t t' : TS} (h : PSs X e t) (w : ∀ D σ H, t' D σ H → t D σ H) : PSs X e t' := ⟨fun pins s σ H D I q => h.run pins s σ H D I (w D σ H q)⟩

/-! ### names, constants -/
def wVar (i : Nat) : TD := fun ρ Q => match ρ[i]? with
  | some (.dat d) => Q (.dat d) ρ
  | some (.own _) => Q (.bor i) ρ
  | _ => False
def wC (d : D) : TD := fun ρ Q => Q (.dat d) ρ
section
variable {X : Cx} {b : Bas}
theorem d_var {e : Expr} (i : Nat) (h : PE X e (tVar i)) : PD X b e (wVar i) := pe_weak h fun σ H Q q => by
  obtain ⟨G, ρ, QD, w, q, k⟩ := q
  unfold wVar at q
  split at q
  · rename_i d e
    obtain ⟨v, h1, h2⟩ := w.dat i d e
    exact ⟨v, h1, k v H G (.dat d) ρ w (Fm.refl σ ρ H G) h2 q⟩
  · rename_i o e
    obtain ⟨a, h, h1, h2⟩ := w.own i o e
    exact ⟨.ref a, h1, k _ H G (.bor i) ρ w (Fm.refl σ ρ H G) h1 q⟩
  · exact q.elim
/-- a scalar's value -/
def Sc : V → D → Bool
  | .non, .non => true
  | .bl a, .bl c => a == c
  | .int i, .int j => i == j
  | .str x, .str y => x == y
  | _, _ => false
def vD : D → Option V
  | .non => some .non
  | .bl a => some (.bl a)
  | .int i => some (.int i)
  | .str x => some (.str x)
  | .ty n => some (.ty n)
  | .cls C => some (.ref C)
  | _ => none
theorem rp_vD {K : PySem.W.Frag} {G : Hp} {v : V} {d : D} (h : vD d = some v) : Rp K G v d := by
  cases d <;> cases h
  · exact .non
  · exact .bl _
  · exact .int _
  · exact .str _
  · exact .ty _
  · exact .cls _
theorem d_c {e : Expr} {v : V} (d : D) (h : PE X e (tC v)) (hv : vD d = some v := by rfl) : PD X b e (wC d) := pe_weak h fun σ H Q q => by
  obtain ⟨G, ρ, QD, w, q, k⟩ := q
  exact k v H G (.dat d) ρ w (Fm.refl σ ρ H G) (rp_vD hv) q
end

/-! ### operations on values -/
/-- what comes of an operation -/
def Out (K : PySem.W.Frag) (H G : Hp) (v : V) (H' : Hp) : Z → Prop
  | .d x => H' = H ∧ Rp K G v x
  | .n o => ∃ p h, v = .ref p ∧ H p = none ∧ H' = upd H p h ∧ RpO K G h o
  | .t l => (∃ p o xs, v = .ref p ∧ o.dict = none ∧ H p = none ∧ H' = upd H p (.frz o (.tup xs)) ∧ RpA K G xs l) ∨ H' = H ∧ Rp K G v (.tup l)
  | .w l => ∃ p xs, v = .ref p ∧ H p = none ∧ H' = upd H p (.tup xs) ∧ RpA K G xs l
theorem Out.go {K : PySem.W.Frag} {b : Bas} {σ : L2.St} {H G H' : Hp} {ρ : Rho} {v : V} {z : Z} (w : Rel K b σ H G ρ) (h : Out K H G v H' z) : ∃ G', Rel K b σ H' G' ρ ∧ Fm σ ρ H G ρ H' G' ∧ Rv K b σ H H' G' ρ v z.r := by
  cases z with
  | d d =>
    obtain ⟨rfl, h⟩ := h
    exact ⟨G, w, Fm.refl σ ρ H' G, h⟩
  | n o =>
    obtain ⟨p, h, rfl, hp, rfl, r⟩ := h
    exact ⟨G, w.new hp, w.newF hp, p, h, rfl, upd_same, w.sub.gone hp, w.bas.gone hp, r, w.apart hp, hp⟩
  | t l =>
    rcases h with ⟨p, o, xs, rfl, ho, hp, rfl, r⟩ | ⟨rfl, h⟩
    · have e : Ex G (upd G p (.frz o (.tup xs))) := Ex.put (w.sub.gone hp)
      exact ⟨upd G p (.frz o (.tup xs)), w.newD hp, w.newFD hp, .tup (SqP.new ho) (r.up e)⟩
    · exact ⟨G, w, Fm.refl σ ρ H' G, h⟩
  | w l =>
    obtain ⟨p, xs, rfl, hp, rfl, r⟩ := h
    have e : Ex G (upd G p (.tup xs)) := Ex.put (w.sub.gone hp)
    exact ⟨upd G p (.tup xs), w.newD hp, w.newFD hp, .wt (.inl (.inl upd_same)) (r.up e)⟩
/-- a two-place reading does at least what g tells -/
def Op2 (K : PySem.W.Frag) (r : R2) (g : D → D → Option Z) : Prop := ∀ (H G : Hp) (x y : V) (d e : D) (z : Z) (Q : VK), Ex G H → Rc K H G x d → Rc K H G y e → g d e = some z → (∀ v H', Out K H G v H' z → Q v H') → r x y H Q
def Op1 (K : PySem.W.Frag) (r : V → Hp → VK → Prop) (g : D → Option Z) : Prop := ∀ (H G : Hp) (x : V) (d : D) (z : Z) (Q : VK), Ex G H → Rc K H G x d → g d = some z → (∀ v H', Out K H G v H' z → Q v H') → r x H Q
def wOp (g : D → D → Option Z) (ta tb : TD) : TD := fun ρ Q => ta ρ fun r1 ρ1 => tb ρ1 fun r2 ρ2 => lk (con ρ2 r1) fun d1 => lk (con ρ2 r2) fun d2 => lk (g d1 d2) fun z => Q z.r ρ2
def wUn (g : D → Option Z) (ta : TD) : TD := fun ρ Q => ta ρ fun r1 ρ1 => lk (con ρ1 r1) fun d1 => lk (g d1) fun z => Q z.r ρ1
theorem op_go {K : PySem.W.Frag} {b : Bas} {r : R2} {g : D → D → Option Z} (hr : Op2 K r g) {ta tb : TD} {σ : L2.St} {H : Hp} {Q : VK} (q : lift K b (wOp g ta tb) σ H Q) : tOp r (lift K b ta) (lift K b tb) σ H Q := by
  obtain ⟨G, ρ, QD, w, q, k⟩ := q
  refine ⟨G, ρ, _, w, q, fun v H1 G1 r1 ρ1 w1 m1 q1 z1 => ?_⟩
  refine ⟨G1, ρ1, _, w1, z1, fun u H2 G2 r2 ρ2 w2 m2 q2 z2 => ?_⟩
  obtain ⟨d1, c1, z2⟩ := lk_get z2
  obtain ⟨d2, c2, z2⟩ := lk_get z2
  obtain ⟨z, cz, z2⟩ := lk_get z2
  refine hr H2 G2 v u d1 d2 z Q w2.sub ((q1.stay m2).rc w2 c1) (q2.rc w2 c2) cz fun v' H' o => ?_
  obtain ⟨G', w', m', q'⟩ := o.go w2
  exact k v' H' G' _ ρ2 w' ((m1.trans m2).trans m') (q'.back fun a z => (m1.trans m2).dm a z) z2
theorem un_go {K : PySem.W.Frag} {b : Bas} {r : V → Hp → VK → Prop} {g : D → Option Z} (hr : Op1 K r g) {ta : TD} {σ : L2.St} {H : Hp} {Q : VK} (q : lift K b (wUn g ta) σ H Q) : tUn r (lift K b ta) σ H Q := by
  obtain ⟨G, ρ, QD, w, q, k⟩ := q
  refine ⟨G, ρ, _, w, q, fun v H1 G1 r1 ρ1 w1 m1 q1 z1 => ?_⟩
  obtain ⟨d1, c1, z1⟩ := lk_get z1
  obtain ⟨z, cz, z1⟩ := lk_get z1
  refine hr H1 G1 v d1 z Q w1.sub (q1.rc w1 c1) cz fun v' H' o => ?_
  obtain ⟨G', w', m', q'⟩ := o.go w1
  exact k v' H' G' _ ρ1 w' (m1.trans m') (q'.back m1.dm) z1
section
variable {X : Cx} {b : Bas} {ea eb : Expr} {ta tb : TD} {pos : Pos}
theorem d_op {op : Operator} {r : R2} {g : D → D → Option Z} (ho : OpR X (binaryOp op) r) (hr : Op2 X.K r g) (ha : PD X b ea ta) (hb : PD X b eb tb) : PD X b (.BinOp ea op eb pos) (wOp g ta tb) :=
  pe_weak (pe_op ho ha hb) fun _ _ _ q => op_go hr q
theorem d_un {op : UnaryOp} {r : V → Hp → VK → Prop} {g : D → Option Z} (ho : UnR X (unaryOp op) r) (hr : Op1 X.K r g) (ha : PD X b ea ta) : PD X b (.UnaryOp op ea pos) (wUn g ta) :=
  pe_weak (pe_un ho ha) fun _ _ _ q => un_go hr q
theorem d_cmp {op : CmpOp} {r : R2} {g : D → D → Option Z} (ho : OpR X (compareOp op) r) (hr : Op2 X.K r g) (ha : PD X b ea ta) (hb : PD X b eb tb) (hm : behindInMarks op eb = false) : PD X b (.Compare ea [op] [eb] pos) (wOp g ta tb) :=
  pe_weak (pe_cmpR ho ha hb hm) fun _ _ _ q => op_go hr q
theorem d_ix {r : R2} {g : D → D → Option Z} (ho : IxR X r) (hr : Op2 X.K r g) (ha : PD X b ea ta) (hb : PD X b eb tb) (hs : PlainIx eb := by intro _ _; rfl) : PD X b (.Subscript ea eb pos) (wOp g ta tb) :=
  pe_weak (pe_ix ho ha hb hs) fun _ _ _ q => op_go hr q
end
end DL

set_option Elab.async false
set_option maxRecDepth 100000
set_option maxHeartbeats 4000000
/-! DL2: giving a slot's object up, tests, argument lists, statements, defs by promises over data. -/
namespace DL
open PySem PySem.Spec PyProof.Rows L2

/-! ### a slot's object given up -/
def frz (ks : List Nat) (r : R) (ρ : Rho) : Option (D × Rho) := match r with
  | .dat x => some (x, ρ)
  | .own o => some (o.d, ρ)
  | .bor i => if i ∈ ks then none else match ρ[i]? with
    | some (.own o) => some (o.d, ρ.set i (.dat o.d))
    | some (.dat x) => some (x, ρ)
    | _ => none
def frzs (ks : List Nat) : List R → Rho → Option (List D × Rho)
  | [], ρ => some ([], ρ)
  | r :: rs, ρ => (frz ks r ρ).bind fun p => (frzs ks rs p.2).map fun q => (p.1 :: q.1, q.2)

section
variable {K : PySem.W.Frag} {b : Bas} {σ : L2.St} {H G : Hp} {ρ : Rho}
theorem Rel.give {i : Nat} {o : Own} {a : Addr} {h : HO} (w : Rel K b σ H G ρ) (hr : ρ[i]? = some (.own o)) (ha : σ[i]? = some (some (.ref a))) (hh : H a = some h) (hk : ∀ p ∈ b.kp, p.1 ≠ i) :
    Rel K b σ H (upd G a h) (ρ.set i (.dat o.d)) ∧ Ex G (upd G a h) ∧ Rp K (upd G a h) (.ref a) o.d := by
  obtain ⟨a', h', q1, q2, q3, q4, q5⟩ := w.own i o hr
  have ea : a' = a := by rw [ha] at q1; cases q1; rfl
  subst ea
  have eh : h' = h := by rw [hh] at q2; cases q2; rfl
  subst eh
  have il : i < ρ.length := (List.getElem?_eq_some_iff.mp hr).1
  have e : Ex G (upd G a' h') := Ex.put q3
  have fz := q5.froz q3
  refine ⟨⟨w.sub.both hh, w.bas, w.gro.trans e, fun c h1 h2 => ?_, ?_, fun j d hj => ?_, fun j o' hj => ?_, fun j k o1 o2 c h1 h2 h3 h4 => ?_, fun p hp => ?_⟩, e, fz⟩
  · rw [upd_ne (fun z => h1 (by rw [z]; exact q4))]; exact w.prt c h1 h2
  · rw [List.length_set]; exact w.len
  · by_cases hji : j = i
    · subst hji
      rw [List.getElem?_set_self il] at hj
      cases hj
      exact ⟨_, ha, fz⟩
    · rw [List.getElem?_set_ne (Ne.symm hji)] at hj
      obtain ⟨v, z1, z2⟩ := w.dat j d hj
      exact ⟨v, z1, z2.up e⟩
  · by_cases hji : j = i
    · subst hji
      rw [List.getElem?_set_self il] at hj
      cases hj
    · rw [List.getElem?_set_ne (Ne.symm hji)] at hj
      obtain ⟨c, hc, z1, z2, z3, z4, z5⟩ := w.own j o' hj
      have hne : c ≠ a' := fun z => by subst z; exact hji (w.dis j i o' o c hj hr z1 ha)
      exact ⟨c, hc, z1, z2, by rw [upd_ne hne]; exact z3, z4, z5.up e⟩
  · have n1 : j ≠ i := fun z => by subst z; rw [List.getElem?_set_self il] at h1; cases h1
    have n2 : k ≠ i := fun z => by subst z; rw [List.getElem?_set_self il] at h2; cases h2
    rw [List.getElem?_set_ne (Ne.symm n1)] at h1
    rw [List.getElem?_set_ne (Ne.symm n2)] at h2
    exact w.dis j k o1 o2 c h1 h2 h3 h4
  · obtain ⟨z1, o', z2⟩ := w.kep p hp
    exact ⟨z1, o', by rw [List.getElem?_set_ne (Ne.symm (hk p hp))]; exact z2⟩
theorem Rel.frz {ks : List Nat} {r : R} {v : V} {d : D} {ρ0 ρ' : Rho} {J Z : Hp} (w : Rel K b σ H G ρ) (hk : b.kp.map (·.1) = ks) (m : Fm σ ρ0 J Z ρ H G) (q : Rv K b σ J H G ρ v r) (e : DL.frz ks r ρ = some (d, ρ')) :
    ∃ G', Rel K b σ H G' ρ' ∧ Fm σ ρ0 J Z ρ' H G' ∧ Ex G G' ∧ Rp K G' v d ∧ (G' = G ∨ ∃ a h, v = .ref a ∧ G' = upd G a h ∧ ((∃ o, r = .own o) ∨ ∃ i o, r = .bor i ∧ ρ[i]? = some (.own o))) ∧ ∀ (i : Nat) (o' : Own), ρ'[i]? = some (.own o') → ρ[i]? = some (.own o') := by
  cases r with
  | dat x =>
    cases e
    exact ⟨G, w, m, Ex.refl G, q, .inl rfl, fun _ _ h => h⟩
  | own o =>
    cases e
    obtain ⟨a, h, rfl, h1, h2, h3, h4, h5, h6⟩ := q
    have x : Ex G (upd G a h) := Ex.put h2
    refine ⟨upd G a h, w.froz h1 h2 h3 h5, ⟨m.ex.trans x, fun c u z n => ?_, m.ow, m.dm⟩, x, h4.froz h2, .inr ⟨a, h, rfl, rfl, .inl ⟨o, rfl⟩⟩, fun _ _ h => h⟩
    · obtain ⟨y1, y2⟩ := m.kp c u z n
      exact ⟨y1, fun y => by rw [upd_ne (ne_of_none z h6)]; exact y2 y⟩
  | bor i =>
    have q' : σ[i]? = some (some v) := q
    unfold DL.frz at e
    dsimp only at e
    split at e
    · cases e
    · rename_i hi
      split at e
      · rename_i o ho
        cases e
        obtain ⟨a, h, h1, h2, h3, h4, h5⟩ := w.own i o ho
        rw [h1] at q'
        cases q'
        have il : i < ρ.length := (List.getElem?_eq_some_iff.mp ho).1
        have sub : ∀ (j : Nat) (o' : Own), (ρ.set i (.dat o.d))[j]? = some (.own o') → ρ[j]? = some (.own o') := fun j o' z => by
          by_cases hj : j = i
          · subst hj; rw [List.getElem?_set_self il] at z; cases z
          · rw [List.getElem?_set_ne (Ne.symm hj)] at z; exact z
        have x : Ex G (upd G a h) := Ex.put h3
        refine ⟨upd G a h, (w.give ho h1 h2 fun p hp z => hi ?_).1, ⟨m.ex.trans x, fun c u z n => ?_, fun j o' z => m.ow j o' (sub j o' z), m.dm⟩, x, h5.froz h3, .inr ⟨a, h, rfl, rfl, .inr ⟨i, o, rfl, ho⟩⟩, sub⟩
        · rw [← hk, ← z]
          exact List.mem_map_of_mem hp
        · obtain ⟨y1, y2⟩ := m.kp c u z n
          refine ⟨y1, fun y => ?_⟩
          have hne : c ≠ a := fun ca => by
            subst ca
            obtain ⟨o0, ho0⟩ := m.ow i o ho
            exact n i o0 ho0 h1
          rw [upd_ne hne]; exact y2 y
      · rename_i x hx
        cases e
        obtain ⟨u, h1, h2⟩ := w.dat i _ hx
        rw [h1] at q'
        cases q'
        exact ⟨G, w, m, Ex.refl G, h2, .inl rfl, fun _ _ h => h⟩
      · cases e
theorem RvA.up {vs : List V} {rs : List R} {J H' G' : Hp} {ρ' : Rho} (m : Fm σ ρ H G ρ' H' G') (q : RvA K b σ J H G ρ vs rs) : RvA K b σ J H' G' ρ' vs rs := by
  induction q with
  | nil => exact .nil
  | cons h1 h2 _ ih => exact .cons (h1.stay m) h2 ih
/-- the other answers, behind a giving-up -/
theorem Rv.past {J : Hp} {G' : Hp} {ρ' : Rho} {u : V} {r : R} (x : Ex G G') (s : ∀ (i : Nat) (o' : Own), ρ'[i]? = some (.own o') → ρ[i]? = some (.own o'))
    (d : ∀ (a : Addr) (o : Own), r = .own o → u = .ref a → G' a = none) (q : Rv K b σ J H G ρ u r) : Rv K b σ J H G' ρ' u r := by
  cases r with
  | dat y => exact Rp.up x q
  | bor i => exact q
  | own o =>
    obtain ⟨a, h, rfl, h1, h2, h3, h4, h5, h6⟩ := q
    exact ⟨a, h, rfl, h1, d a o rfl rfl, h3, h4.up x, fun i o' z => h5 i o' (s i o' z), h6⟩
theorem RvA.past {J : Hp} {G' : Hp} {ρ' : Rho} (x : Ex G G') (s : ∀ (i : Nat) (o' : Own), ρ'[i]? = some (.own o') → ρ[i]? = some (.own o')) :
    ∀ {vs : List V} {rs : List R}, RvA K b σ J H G ρ vs rs → (∀ (a : Addr) (j : Nat) (o' : Own), rs[j]? = some (.own o') → vs[j]? = some (.ref a) → G' a = none) → RvA K b σ J H G' ρ' vs rs
  | _, _, .nil, _ => .nil
  | _, _, .cons h1 h2 h3, d => .cons (h1.past x s fun a o e1 e2 => d a 0 o (by rw [e1]; rfl) (by rw [e2]; rfl)) h2 (RvA.past x s h3 fun a j o' z1 z2 => d a (j + 1) o' z1 z2)
theorem RvA.backA {J J' : Hp} (h : ∀ a, J a = none → J' a = none) : ∀ {vs : List V} {rs : List R}, RvA K b σ J H G ρ vs rs → RvA K b σ J' H G ρ vs rs
  | _, _, .nil => .nil
  | _, _, .cons h1 h2 h3 => .cons (h1.back h) h2 (RvA.backA h h3)
theorem RvA.at {J : Hp} : ∀ {vs : List V} {rs : List R}, RvA K b σ J H G ρ vs rs → ∀ {j : Nat} {r : R} {v : V}, rs[j]? = some r → vs[j]? = some v → Rv K b σ J H G ρ v r
  | _, _, .nil, j, r, v, h, _ => by simp at h
  | _, _, .cons h1 _ _, 0, r, v, e1, e2 => by cases e1; cases e2; exact h1
  | _, _, .cons _ _ h3, j + 1, r, v, e1, e2 => RvA.at h3 (j := j) (by simpa using e1) (by simpa using e2)
theorem Rel.frzs {ks : List Nat} (hk : b.kp.map (·.1) = ks) {ρ0 : Rho} {J Z : Hp} : ∀ {rs : List R} {vs : List V} {ds : List D} {G : Hp} {ρ ρ' : Rho}, Rel K b σ H G ρ → Fm σ ρ0 J Z ρ H G → RvA K b σ J H G ρ vs rs → DL.frzs ks rs ρ = some (ds, ρ') →
    ∃ G', Rel K b σ H G' ρ' ∧ Fm σ ρ0 J Z ρ' H G' ∧ RpA K G' vs ds ∧ Ex G G'
  | [], vs, ds, G, ρ, ρ', w, m, q, e => by
    cases q
    cases e
    exact ⟨G, w, m, .nil, Ex.refl G⟩
  | r :: rs, vs, ds, G, ρ, ρ', w, m, q, e => by
    cases q with
    | cons q1 q2 q3 =>
      rename_i v vs
      unfold DL.frzs at e
      cases e1 : DL.frz ks r ρ with
      | none => rw [e1] at e; cases e
      | some p =>
        obtain ⟨d, ρ1⟩ := p
        rw [e1] at e
        obtain ⟨G1, w1, m1, x1, r1, n1, s1⟩ := w.frz hk m q1 e1
        have e' : Option.map (fun q : List D × Rho => (d :: q.1, q.2)) (DL.frzs ks rs ρ1) = some (ds, ρ') := e
        cases e2 : DL.frzs ks rs ρ1 with
        | none => rw [e2] at e'; cases e'
        | some p2 =>
          obtain ⟨ds2, ρ2⟩ := p2
          rw [e2] at e'
          cases e'
          have q3' : RvA K b σ J H G1 ρ1 vs rs := q3.past x1 s1 fun a j o' z1 z2 => by
            obtain ⟨c, h, y1, y2, y3, y4, y5, y6, y7⟩ := q3.at z1 z2
            cases y1
            rcases n1 with rfl | ⟨c, h', rfl, rfl, ⟨o, rfl⟩ | ⟨i, o, rfl, ho⟩⟩
            · exact y3
            · rw [upd_ne (fun y => q2 c o rfl rfl j o' z1 (by rw [z2, y]))]; exact y3
            · rw [upd_ne (fun y => y6 i o ho (by rw [y]; exact q1))]; exact y3
          obtain ⟨G2, w2, m2, r2, x2⟩ := Rel.frzs hk w1 m1 q3' e2
          exact ⟨G2, w2, m2, .cons (r1.up x2) r2, x1.trans x2⟩
end

/-! ### truth, tests -/
def truD : D → Option Bool
  | .non => some false
  | .bl c => some c
  | .int i => some (i != 0)
  | .str x => if x.length ≤ sizeLine then some ((x.length : Int) != 0) else none
  | .lst l => some (!l.isEmpty)
  | .tup l => some (!l.isEmpty)
  | .wt l => some (!l.isEmpty)
  | .ty _ => none
  | .cls _ => none
  | .dct l => some (!l.isEmpty)
  | .ins _ _ => none
  | .fzl l => some (!l.isEmpty)
theorem RpA.len {K : PySem.W.Frag} {G : Hp} : ∀ {xs : List V} {ds : List D}, RpA K G xs ds → xs.length = ds.length
  | _, _, .nil => rfl
  | _, _, .cons _ r => congrArg (· + 1) r.len
theorem RpK.len {K : PySem.W.Frag} {G : Hp} : ∀ {xs : List (Key × V)} {ds : List (Key × D)}, RpK K G xs ds → xs.length = ds.length
  | _, _, .nil => rfl
  | _, _, .cons _ r => congrArg (· + 1) r.len
theorem RpA.empty {K : PySem.W.Frag} {G : Hp} {xs : List V} {ds : List D} (r : RpA K G xs ds) : ds.isEmpty = xs.isEmpty := by cases r <;> rfl
theorem RpK.empty {K : PySem.W.Frag} {G : Hp} {xs : List (Key × V)} {ds : List (Key × D)} (r : RpK K G xs ds) : ds.isEmpty = xs.isEmpty := by cases r <;> rfl
theorem truD_ok {K : PySem.W.Frag} {H G : Hp} {v : V} {d : D} {c : Bool} (e : Ex G H) (r : Rc K H G v d) (h : truD d = some c) : TruV K v H c := by
  rcases r with r | ⟨a, h', o, rfl, h1, r, rfl⟩
  · cases r with
    | non => cases h; exact rfl
    | bl b => cases h; exact rfl
    | int i => cases h; exact rfl
    | str x =>
      unfold truD at h
      dsimp only at h
      split at h
      · rename_i hl
        cases h
        exact ⟨hl, rfl⟩
      · cases h
    | lst q r => cases h; exact .inl ⟨_, SqL.of (e _ _ q), by rw [r.empty]⟩
    | fzl q r => cases h; exact .inl ⟨_, e.sql q, by rw [r.empty]⟩
    | tup q r => cases h; exact .inr (.inl ⟨_, e.sqt q.1, by rw [r.empty]⟩)
    | wt q r => cases h; exact .inr (.inl ⟨_, e.sqt q, by rw [r.empty]⟩)
    | dct q r => cases h; exact .inr (.inr ⟨_, e _ _ q, by rw [r.empty]⟩)
    | ins q r => cases h
    | ty n => cases h
    | cls C => cases h
  · cases r with
    | lst r => cases h; exact .inl ⟨_, .inl (.inl h1), by rw [r.empty]⟩
    | dct r => cases h; exact .inr (.inr ⟨_, h1, by rw [r.empty]⟩)
    | ins r => cases h
def wTr (ta : TD) : TTD := fun ρ Q => ta ρ fun r ρ1 => lk (con ρ1 r) fun d => lk (truD d) fun c => Q c ρ1
def wAnd (t u : TTD) : TTD := fun ρ Q => t ρ fun c ρ1 => if c = true then u ρ1 Q else Q false ρ1
def wOr (t u : TTD) : TTD := fun ρ Q => t ρ fun c ρ1 => if c = true then Q true ρ1 else u ρ1 Q
def wNot (t : TTD) : TTD := fun ρ Q => t ρ fun c ρ1 => Q (!c) ρ1
def wIf (t : TTD) (ta tb : TD) : TD := fun ρ Q => t ρ fun c ρ1 => if c = true then ta ρ1 Q else tb ρ1 Q
def bD : D → Option Bool
  | .bl c => some c
  | _ => none
def wAndV (ta tb : TD) : TD := fun ρ Q => ta ρ fun r ρ1 => lk ((con ρ1 r).bind bD) fun c => if c = true then tb ρ1 Q else Q (.dat (.bl false)) ρ1
def wOrV (ta tb : TD) : TD := fun ρ Q => ta ρ fun r ρ1 => lk ((con ρ1 r).bind bD) fun c => if c = true then Q (.dat (.bl true)) ρ1 else tb ρ1 Q
def wNotV (ta : TD) : TD := fun ρ Q => ta ρ fun r ρ1 => lk ((con ρ1 r).bind bD) fun c => Q (.dat (.bl (!c))) ρ1
theorem bD_ok {K : PySem.W.Frag} {b : Bas} {σ : L2.St} {J H G : Hp} {ρ : Rho} {v : V} {r : R} {c : Bool} (w : Rel K b σ H G ρ) (q : Rv K b σ J H G ρ v r) (h : (con ρ r).bind bD = some c) : v = .bl c := by
  cases e : con ρ r with
  | none => rw [e] at h; cases h
  | some d =>
    rw [e] at h
    have h' : bD d = some c := h
    cases d <;> cases h'
    rcases q.rc w e with r | ⟨a, h', o, rfl, h1, r, z⟩
    · cases r; rfl
    · cases o <;> cases z
section
variable {X : Cx} {b : Bas} {ea eb ec : Expr} {ta tb : TD} {tt tu : TTD} {pos : Pos} {rest : List Expr}
abbrev PWD (X : Cx) (b : Bas) (e : Expr) (td : TTD) : Prop := PW X e (liftT X.K b td)
theorem pw_weak {e : Expr} {t t' : TT} (h : PW X e t) (w : ∀ σ H Q, t' σ H Q → t σ H Q) : PW X e t' := ⟨fun wh pins s σ H Q I q => h.run wh pins s σ H Q I (w σ H Q q)⟩
theorem t_tr (ha : PD X b ea ta) (he : ∀ whole, isTrue ea X.env whole = (do let v ← whole; standAt ea.pos; holding [v] (truthy v)) := by intro _; rfl) : PTD X b ea (wTr ta) := pt_weak (pt_truth ha he) fun σ H Q q => by
  obtain ⟨G, ρ, QD, w, q, k⟩ := q
  refine ⟨G, ρ, _, w, q, fun v H1 G1 r ρ1 w1 e1 q1 z => ?_⟩
  obtain ⟨d, c1, z⟩ := lk_get z
  obtain ⟨c, c2, z⟩ := lk_get z
  exact ⟨c, truD_ok w1.sub (q1.rc w1 c1) c2, k c H1 G1 ρ1 w1 e1 z⟩
theorem and_go {K : PySem.W.Frag} {σ : L2.St} {H : Hp} {Q : Bool → Hp → Prop} (q : liftT K b (wAnd tt tu) σ H Q) : tAnd (liftT K b tt) (liftT K b tu) σ H Q := by
  obtain ⟨G, ρ, QD, w, q, k⟩ := q
  refine ⟨G, ρ, _, w, q, fun c H1 G1 ρ1 w1 e1 z => ?_⟩
  cases c with
  | true =>
    rw [if_pos rfl] at z ⊢
    exact ⟨G1, ρ1, QD, w1, z, fun c H2 G2 ρ2 w2 e2 z2 => k c H2 G2 ρ2 w2 (e1.trans e2) z2⟩
  | false =>
    rw [if_neg Bool.false_ne_true] at z ⊢
    exact k false H1 G1 ρ1 w1 e1 z
theorem or_go {K : PySem.W.Frag} {σ : L2.St} {H : Hp} {Q : Bool → Hp → Prop} (q : liftT K b (wOr tt tu) σ H Q) : tOr (liftT K b tt) (liftT K b tu) σ H Q := by
  obtain ⟨G, ρ, QD, w, q, k⟩ := q
  refine ⟨G, ρ, _, w, q, fun c H1 G1 ρ1 w1 e1 z => ?_⟩
  cases c with
  | true =>
    rw [if_pos rfl] at z ⊢
    exact k true H1 G1 ρ1 w1 e1 z
  | false =>
    rw [if_neg Bool.false_ne_true] at z ⊢
    exact ⟨G1, ρ1, QD, w1, z, fun c H2 G2 ρ2 w2 e2 z2 => k c H2 G2 ρ2 w2 (e1.trans e2) z2⟩
theorem tw_and1 (ha : PTD X b ea tt) : PWD X b (.BoolOp .And [ea] pos) tt := pw_and1 ha
theorem tw_or1 (ha : PTD X b ea tt) : PWD X b (.BoolOp .Or [ea] pos) tt := pw_or1 ha
theorem tw_and (ha : PTD X b ea tt) (hb : PWD X b (.BoolOp .And (eb :: rest) pos) tu) : PWD X b (.BoolOp .And (ea :: eb :: rest) pos) (wAnd tt tu) := pw_weak (pw_and ha hb) fun _ _ _ q => and_go q
theorem tw_or (ha : PTD X b ea tt) (hb : PWD X b (.BoolOp .Or (eb :: rest) pos) tu) : PWD X b (.BoolOp .Or (ea :: eb :: rest) pos) (wOr tt tu) := pw_weak (pw_or ha hb) fun _ _ _ q => or_go q
theorem t_w (h : PWD X b ea tt) : PTD X b ea tt := h.pt
theorem t_not (ha : PTD X b ea tt) : PTD X b (.UnaryOp .Not ea pos) (wNot tt) := pt_weak (pt_not ha) fun σ H Q q => by
  obtain ⟨G, ρ, QD, w, q, k⟩ := q
  exact ⟨G, ρ, _, w, q, fun c H1 G1 ρ1 w1 e1 z => k _ H1 G1 ρ1 w1 e1 z⟩
theorem d_if (hc : PTD X b ec tt) (ha : PD X b ea ta) (hb : PD X b eb tb) : PD X b (.IfExp ec ea eb pos) (wIf tt ta tb) := pe_weak (pe_ifExp hc ha hb) fun σ H Q q => by
  obtain ⟨G, ρ, QD, w, q, k⟩ := q
  refine ⟨G, ρ, _, w, q, fun c H1 G1 ρ1 w1 e1 z => ?_⟩
  cases c with
  | true =>
    rw [if_pos rfl] at z ⊢
    exact ⟨G1, ρ1, QD, w1, z, fun v H2 G2 r ρ2 w2 e2 q2 z2 => k v H2 G2 r ρ2 w2 (e1.trans e2) (q2.back e1.dm) z2⟩
  | false =>
    rw [if_neg Bool.false_ne_true] at z ⊢
    exact ⟨G1, ρ1, QD, w1, z, fun v H2 G2 r ρ2 w2 e2 q2 z2 => k v H2 G2 r ρ2 w2 (e1.trans e2) (q2.back e1.dm) z2⟩
theorem d_one {op : BoolOp} (h : PD X b ea ta) : PD X b (.BoolOp op [ea] pos) ta := pe_one h
theorem d_and (ha : PD X b ea ta) (hb : PD X b (.BoolOp .And (eb :: rest) pos) tb) : PD X b (.BoolOp .And (ea :: eb :: rest) pos) (wAndV ta tb) := pe_weak (pe_and ha hb) fun σ H Q q => by
  obtain ⟨G, ρ, QD, w, q, k⟩ := q
  refine ⟨G, ρ, _, w, q, fun v H1 G1 r ρ1 w1 e1 q1 z => ?_⟩
  obtain ⟨c, c1, z⟩ := lk_get z
  refine ⟨c, bD_ok w1 q1 c1, ?_⟩
  cases c with
  | true =>
    rw [if_pos rfl] at z ⊢
    exact ⟨G1, ρ1, QD, w1, z, fun v H2 G2 r ρ2 w2 e2 q2 z2 => k v H2 G2 r ρ2 w2 (e1.trans e2) (q2.back e1.dm) z2⟩
  | false =>
    rw [if_neg Bool.false_ne_true] at z ⊢
    exact k _ H1 G1 (.dat (.bl false)) ρ1 w1 e1 (.bl false) z
theorem d_or (ha : PD X b ea ta) (hb : PD X b (.BoolOp .Or (eb :: rest) pos) tb) : PD X b (.BoolOp .Or (ea :: eb :: rest) pos) (wOrV ta tb) := pe_weak (pe_or ha hb) fun σ H Q q => by
  obtain ⟨G, ρ, QD, w, q, k⟩ := q
  refine ⟨G, ρ, _, w, q, fun v H1 G1 r ρ1 w1 e1 q1 z => ?_⟩
  obtain ⟨c, c1, z⟩ := lk_get z
  refine ⟨c, bD_ok w1 q1 c1, ?_⟩
  cases c with
  | true =>
    rw [if_pos rfl] at z ⊢
    exact k _ H1 G1 (.dat (.bl true)) ρ1 w1 e1 (.bl true) z
  | false =>
    rw [if_neg Bool.false_ne_true] at z ⊢
    exact ⟨G1, ρ1, QD, w1, z, fun v H2 G2 r ρ2 w2 e2 q2 z2 => k v H2 G2 r ρ2 w2 (e1.trans e2) (q2.back e1.dm) z2⟩
theorem d_not (ha : PD X b ea ta) : PD X b (.UnaryOp .Not ea pos) (wNotV ta) := pe_weak (pe_not ha) fun σ H Q q => by
  obtain ⟨G, ρ, QD, w, q, k⟩ := q
  refine ⟨G, ρ, _, w, q, fun v H1 G1 r ρ1 w1 e1 q1 z => ?_⟩
  obtain ⟨c, c1, z⟩ := lk_get z
  exact ⟨c, bD_ok w1 q1 c1, k _ H1 G1 (.dat (.bl (!c))) ρ1 w1 e1 (.bl _) z⟩
/-- a chain of two comparisons -/
def wChain (g g' : D → D → Option Z) (ta tb tc : TD) : TD := fun ρ Q => ta ρ fun r1 ρ1 => tb ρ1 fun r2 ρ2 => lk (con ρ2 r1) fun d1 => lk (con ρ2 r2) fun d2 => lk (g d1 d2) fun z =>
  match z with
  | .d (.bl c) => if c = true then tc ρ2 fun r3 ρ3 => lk (con ρ3 r2) fun d2' => lk (con ρ3 r3) fun d3 => lk (g' d2' d3) fun z' => Q z'.r ρ3 else Q (.dat (.bl false)) ρ2
  | _ => False
theorem chain_go {K : PySem.W.Frag} {r r' : R2} {g g' : D → D → Option Z} (hg : Op2 K r g) (hg' : Op2 K r' g') {ta tb tc : TD} {σ : L2.St} {H : Hp} {Q : VK} (q : lift K b (wChain g g' ta tb tc) σ H Q) : tChain r r' (lift K b ta) (lift K b tb) (lift K b tc) σ H Q := by
  obtain ⟨G, ρ, QD, w, q, k⟩ := q
  refine ⟨G, ρ, _, w, q, fun v H1 G1 r1 ρ1 w1 e1 q1 z => ?_⟩
  refine ⟨G1, ρ1, _, w1, z, fun u H2 G2 r2 ρ2 w2 e2 q2 z => ?_⟩
  obtain ⟨d1, c1, z⟩ := lk_get z
  obtain ⟨d2, c2, z⟩ := lk_get z
  obtain ⟨y, cy, z⟩ := lk_get z
  have a1 : Rc K H2 G2 v d1 := (q1.stay e2).rc w2 c1
  refine hg H2 G2 v u d1 d2 y _ w2.sub a1 (q2.rc w2 c2) cy fun v' H' o => ?_
  split at z
  · rename_i c
    obtain ⟨rfl, o⟩ := o
    cases o
    refine ⟨c, rfl, ?_⟩
    cases c with
    | true =>
      rw [if_pos rfl] at z ⊢
      refine ⟨G2, ρ2, _, w2, z, fun t H3 G3 r3 ρ3 w3 e3 q3 z => ?_⟩
      obtain ⟨d2', c2', z⟩ := lk_get z
      obtain ⟨d3, c3, z⟩ := lk_get z
      obtain ⟨y', cy', z⟩ := lk_get z
      have a2 : Rc K H3 G3 u d2' := (q2.stay e3).rc w3 c2'
      refine hg' H3 G3 u t d2' d3 y' Q w3.sub a2 (q3.rc w3 c3) cy' fun v' H' o => ?_
      obtain ⟨G', w', e', q'⟩ := o.go w3
      exact k v' H' G' _ ρ3 w' (((e1.trans e2).trans e3).trans e') (q'.back ((e1.trans e2).trans e3).dm) z
    | false =>
      rw [if_neg Bool.false_ne_true] at z ⊢
      exact k _ H' G2 (.dat (.bl false)) ρ2 w2 (e1.trans e2) (.bl false) z
  · exact z.elim
theorem d_chain {op op' : CmpOp} {r r' : R2} {g g' : D → D → Option Z} {tc : TD} (ho : OpR X (compareOp op) r) (ho' : OpR X (compareOp op') r') (hg : Op2 X.K r g) (hg' : Op2 X.K r' g') (ha : PD X b ea ta) (hb : PD X b eb tb) (hc : PD X b ec tc)
    (hm : lastMarks [op, op'] [eb, ec] = false := by with_unfolding_all rfl) : PD X b (.Compare ea [op, op'] [eb, ec] pos) (wChain g g' ta tb tc) := pe_weak (pe_chain ho ho' ha hb hc hm) fun _ _ _ q => chain_go hg hg' q
end

/-! ### argument lists, displays -/
/-- a new tuple, its object known -/
def NewT (H : Hp) (xs : List V) (Q : VK) : Prop := ∀ p o, o.dict = none → H p = none → Q (.ref p) (upd H p (.frz o (.tup xs)))
theorem laidT {X : Cx} {pins : List (Addr × Obj)} {σ : L2.St} {H : Hp} {s : Shared} {xs : List V} {its : List Value} {Q : VK} (I : Inv X pins σ H s) (r : Vals xs its) (hz : xs.length ≤ sizeLine) (q : NewT H xs Q) :
    EP X pins σ Q (.ref s.heap.objs.size) { s with heap := s.heap.push { cls := .type "tuple", data := .seq its.toArray } } :=
  ⟨.ref s.heap.objs.size, _, I.laid (t' := s.toks) (o := .frz { cls := .type "tuple", data := .seq its.toArray } (.tup xs)) (fun b u e => Heap.get?_push_of_some _ e) (Nat.le_refl _) ⟨Heap.get?_push_size _ rfl, hz, its, r, IsTup.new _ _⟩, rfl, q _ _ rfl (I.hok.fresh (Nat.le_refl _))⟩
def tTupP (t : TA) : TE := fun σ H Q => t σ H fun xs H1 => xs.length ≤ sizeLine ∧ NewT H1 xs Q
theorem pe_tupP {X : Cx} {es : List Expr} {t : TA} {pos : Pos} {x1} (h : PA X es t) : PE X (.Tuple es x1 pos) (tTupP t) := by
  refine ⟨fun pins s σ H Q I hq => ?_⟩
  exact wpAny_Tuple_spliced (thn (h.run pos pins s σ H _ I hq) fun us s1 ⟨xs, H1, I1, r, z, q⟩ => ⟨by rw [← r.length]; exact z, laidT I1 r z q⟩)
def wNil : TAD := fun ρ Q => Q [] ρ
def wCons (ta : TD) (tr : TAD) : TAD := fun ρ Q => ta ρ fun r ρ1 => tr ρ1 fun rs ρ2 => Q (r :: rs) ρ2
def wTup (ks : List Nat) (t : TAD) : TD := fun ρ Q => t ρ fun rs ρ1 => lk (frzs ks rs ρ1) fun p => p.1.length ≤ sizeLine ∧ Q (.dat (.tup p.1)) p.2
def wLst (ks : List Nat) (t : TAD) : TD := fun ρ Q => t ρ fun rs ρ1 => lk (frzs ks rs ρ1) fun p => p.1.length ≤ sizeLine ∧ Q (.own (.lst p.1)) p.2
section
variable {X : Cx} {b : Bas} {e : Expr} {es : List Expr} {ta : TD} {t : TAD} {pos : Pos} {ks : List Nat}
theorem a_nil : PAD X b [] wNil := pa_weak pa_nil fun σ H Q q => by
  obtain ⟨G, ρ, QD, w, q, k⟩ := q
  exact k [] H G [] ρ w (Fm.refl σ ρ H G) .nil q
theorem a_cons (ha : PD X b e ta) (hr : PAD X b es t) (hs : starEach (e :: es) X.env = (false, eval e X.env) :: starEach es X.env := by rfl) : PAD X b (e :: es) (wCons ta t) := pa_weak (pa_cons ha hr hs) fun σ H Q q => by
  obtain ⟨G, ρ, QD, w, q, k⟩ := q
  refine ⟨G, ρ, _, w, q, fun v H1 G1 r ρ1 w1 m1 q1 z => ?_⟩
  refine ⟨G1, ρ1, _, w1, z, fun vs H2 G2 rs ρ2 w2 m2 q2 z => ?_⟩
  refine k (v :: vs) H2 G2 (r :: rs) ρ2 w2 (m1.trans m2) (.cons (q1.stay m2) (fun a o e1 e2 j o' z1 z2 => ?_) (RvA.backA m1.dm q2)) z
  subst e1
  obtain ⟨c, h, y1, y2, _⟩ := q1
  rw [e2] at y1
  cases y1
  obtain ⟨c', h', x1, _, _, _, _, _, x7⟩ := q2.at z1 z2
  cases x1
  rw [y2] at x7; cases x7
theorem d_tup {x1} (hk : b.kp.map (·.1) = ks) (h : PAD X b es t) : PD X b (.Tuple es x1 pos) (wTup ks t) := pe_weak (pe_tupP h) fun σ H Q q => by
  obtain ⟨G, ρ, QD, w, q, k⟩ := q
  refine ⟨G, ρ, _, w, q, fun vs H1 G1 rs ρ1 w1 e1 q1 z => ?_⟩
  obtain ⟨p, c1, hl, z⟩ := lk_get z
  obtain ⟨ds, ρ2⟩ := p
  obtain ⟨G2, w2, m2, r2, _⟩ := Rel.frzs hk w1 e1 q1 c1
  refine ⟨by rw [r2.len]; exact hl, fun p o ho hp => ?_⟩
  have x : Ex G2 (upd G2 p (.frz o (.tup vs))) := Ex.put (w2.sub.gone hp)
  exact k _ _ _ (.dat (.tup ds)) ρ2 (w2.newD hp) (m2.trans (w2.newFD hp)) (.tup (SqP.new ho) (r2.up x)) z
theorem d_lst (hk : b.kp.map (·.1) = ks) (h : PAD X b es t) : PD X b (.List es pos) (wLst ks t) := pe_weak (pe_lst h) fun σ H Q q => by
  obtain ⟨G, ρ, QD, w, q, k⟩ := q
  refine ⟨G, ρ, _, w, q, fun vs H1 G1 rs ρ1 w1 e1 q1 z => ?_⟩
  obtain ⟨p, c1, hl, z⟩ := lk_get z
  obtain ⟨ds, ρ2⟩ := p
  obtain ⟨G2, w2, m2, r2, _⟩ := Rel.frzs hk w1 e1 q1 c1
  refine ⟨by rw [r2.len]; exact hl, fun p hp => ?_⟩
  exact k _ _ G2 (.own (.lst ds)) ρ2 (w2.new hp) (m2.trans (w2.newF hp)) ⟨p, _, rfl, upd_same, w2.sub.gone hp, w2.bas.gone hp, .lst r2, w2.apart hp, m2.dm p hp⟩ z
end
end DL

set_option Elab.async false
set_option maxRecDepth 100000
set_option maxHeartbeats 4000000
/-! DL3: statements, targets, loops, list comprehensions over data. -/
namespace DL
open PySem PySem.Spec PyProof.Rows L2

/-! ### slots stored -/
def R.sl : R → Sl
  | .dat d => .dat d
  | .own o => .own o
  | .bor _ => .no
/-- a slot's object that is handed on is given up -/
def thin (ks : List Nat) (r : R) (ρ : Rho) : Option (R × Rho) := match r with
  | .bor i => (frz ks (.bor i) ρ).map fun p => (.dat p.1, p.2)
  | r => some (r, ρ)
def thins (ks : List Nat) : List R → Rho → Option (List R × Rho)
  | [], ρ => some ([], ρ)
  | r :: rs, ρ => (thin ks r ρ).bind fun p => (thins ks rs p.2).map fun q => (p.1 :: q.1, q.2)
def NoB (r : R) : Prop := ∀ i, r ≠ .bor i
theorem nob_dat (d : D) : NoB (.dat d) := fun i z => by cases z
theorem nob_own (o : Own) : NoB (.own o) := fun i z => by cases z
def setV : List Nat → List V → L2.St → L2.St
  | i :: is, v :: vs, σ => setV is vs (σ.set i (some v))
  | _, _, σ => σ
def setR : List Nat → List R → Rho → Rho
  | i :: is, r :: rs, ρ => setR is rs (ρ.set i r.sl)
  | _, _, ρ => ρ
theorem set_at {α : Type} {l : List α} {i j : Nat} {x y : α} (h : (l.set i x)[j]? = some y) : (j = i ∧ y = x ∧ i < l.length) ∨ (j ≠ i ∧ l[j]? = some y) := by
  by_cases hj : j = i
  · subst hj
    have hl : j < l.length := by
      have := (List.getElem?_eq_some_iff.mp h).1
      rw [List.length_set] at this
      exact this
    rw [List.getElem?_set_self hl] at h
    cases h
    exact .inl ⟨rfl, rfl, hl⟩
  · rw [List.getElem?_set_ne (Ne.symm hj)] at h
    exact .inr ⟨hj, h⟩
theorem set_ne {α : Type} {l : List α} {i j : Nat} {x : α} (h : j ≠ i) : (l.set i x)[j]? = l[j]? := List.getElem?_set_ne (Ne.symm h)
theorem set_eq {α : Type} {l : List α} {i : Nat} {x : α} (h : i < l.length) : (l.set i x)[i]? = some x := List.getElem?_set_self h

section
variable {K : PySem.W.Frag} {b : Bas} {σ : L2.St} {H G : Hp} {ρ : Rho}
/-- a slot is stored: data, or a new object -/
theorem Rel.set {i : Nat} {v : V} {r : R} {J : Hp} (w : Rel K b σ H G ρ) (q : Rv K b σ J H G ρ v r) (hr : NoB r) (hk : ∀ p ∈ b.kp, p.1 ≠ i) : Rel K b (σ.set i (some v)) H G (ρ.set i r.sl) := by
  have len : σ.length = ρ.length := w.len
  refine ⟨w.sub, w.bas, w.gro, w.prt, by rw [List.length_set, List.length_set]; exact len, fun j d hj => ?_, fun j o hj => ?_, fun j k o1 o2 c h1 h2 h3 h4 => ?_, fun p hp => ?_⟩
  · rcases set_at hj with ⟨rfl, e, hl⟩ | ⟨hn, hj⟩
    · cases r with
      | dat x => cases e; exact ⟨v, set_eq (by omega), q⟩
      | own o => cases e
      | bor k => cases e
    · obtain ⟨u, z1, z2⟩ := w.dat j d hj
      exact ⟨u, by rw [set_ne hn]; exact z1, z2⟩
  · rcases set_at hj with ⟨rfl, e, hl⟩ | ⟨hn, hj⟩
    · cases r with
      | dat x => cases e
      | bor k => cases e
      | own o' =>
        cases e
        obtain ⟨a, h, rfl, h1, h2, h3, h4, h5, h6⟩ := q
        exact ⟨a, h, set_eq (by omega), h1, h2, h3, h4⟩
    · obtain ⟨a, h, z1, z2⟩ := w.own j o hj
      exact ⟨a, h, by rw [set_ne hn]; exact z1, z2⟩
  · rcases set_at h1 with ⟨rfl, e, hl⟩ | ⟨hn, y1⟩ <;> rcases set_at h2 with ⟨rfl, e', hl'⟩ | ⟨hn', y2⟩
    · rfl
    · rw [set_eq (by omega)] at h3
      rw [set_ne hn'] at h4
      cases r with
      | dat x => cases e
      | bor k => cases e
      | own o' =>
        obtain ⟨a, h, rfl, q1, q2, q3, q4, q5, q6⟩ := q
        cases h3
        exact absurd h4 (q5 k o2 y2)
    · rw [set_eq (by omega)] at h4
      rw [set_ne hn] at h3
      cases r with
      | dat x => cases e'
      | bor k => cases e'
      | own o' =>
        obtain ⟨a, h, rfl, q1, q2, q3, q4, q5, q6⟩ := q
        cases h4
        exact absurd h3 (q5 j o1 y1)
    · rw [set_ne hn] at h3
      rw [set_ne hn'] at h4
      exact w.dis j k o1 o2 c y1 y2 h3 h4
  · obtain ⟨z1, o, z2⟩ := w.kep p hp
    exact ⟨by rw [set_ne (hk p hp)]; exact z1, o, by rw [set_ne (hk p hp)]; exact z2⟩
/-- the other answers behind a store -/
theorem Rv.set {i : Nat} {v u : V} {r r' : R} {J : Hp} (q : Rv K b σ J H G ρ u r') (hr : NoB r') (p : Rv K b σ J H G ρ v r) (hp : NoB r) (len : σ.length = ρ.length)
    (d : ∀ (a : Addr) (o o' : Own), r = .own o → v = .ref a → r' = .own o' → u ≠ .ref a) : Rv K b (σ.set i (some v)) J H G (ρ.set i r.sl) u r' := by
  cases r' with
  | dat x => exact q
  | bor j => exact absurd rfl (hr j)
  | own o' =>
    obtain ⟨a, h, rfl, h1, h2, h3, h4, h5, h6⟩ := q
    refine ⟨a, h, rfl, h1, h2, h3, h4, fun j o z y => ?_, h6⟩
    rcases set_at z with ⟨rfl, e, hl⟩ | ⟨hn, z⟩
    · rw [set_eq (by omega)] at y
      cases y
      cases r with
      | dat x => cases e
      | bor k => cases e
      | own o1 => exact d a o1 o' rfl rfl rfl rfl
    · rw [set_ne hn] at y
      exact h5 j o z y
theorem RvA.set {i : Nat} {v : V} {r : R} {J : Hp} (p : Rv K b σ J H G ρ v r) (hp : NoB r) (len : σ.length = ρ.length) : ∀ {vs : List V} {rs : List R}, RvA K b σ J H G ρ vs rs → (∀ r ∈ rs, NoB r) →
    (∀ (a : Addr) (o : Own), r = .own o → v = .ref a → ∀ (j : Nat) (o' : Own), rs[j]? = some (.own o') → vs[j]? ≠ some (.ref a)) → RvA K b (σ.set i (some v)) J H G (ρ.set i r.sl) vs rs
  | _, _, .nil, _, _ => .nil
  | _, _, .cons h1 h2 h3, n, d => .cons (h1.set (n _ List.mem_cons_self) p hp len fun a o o' e1 e2 e3 e4 => d a o e1 e2 0 o' (by rw [e3]; rfl) (by rw [e4]; rfl)) h2
      (RvA.set p hp len h3 (fun r hr => n r (List.mem_cons_of_mem _ hr)) fun a o e1 e2 j o' z => d a o e1 e2 (j + 1) o' z)
theorem Rel.sets {J : Hp} : ∀ {is : List Nat} {vs : List V} {rs : List R} {σ : L2.St} {ρ : Rho}, Rel K b σ H G ρ → RvA K b σ J H G ρ vs rs → (∀ r ∈ rs, NoB r) → (∀ i ∈ is, ∀ p ∈ b.kp, p.1 ≠ i) → Rel K b (setV is vs σ) H G (setR is rs ρ)
  | [], _, _, σ, ρ, w, _, _, _ => by unfold setV setR; exact w
  | i :: is, _, _, σ, ρ, w, .nil, _, _ => by unfold setV setR; exact w
  | i :: is, _, _, σ, ρ, w, .cons h1 h2 h3, n, hk => by
    unfold setV setR
    exact Rel.sets (w.set h1 (n _ List.mem_cons_self) (hk i List.mem_cons_self)) (RvA.set h1 (n _ List.mem_cons_self) w.len h3 (fun r hr => n r (List.mem_cons_of_mem _ hr)) fun a o e1 e2 j o' z => h2 a o e1 e2 j o' z)
      (fun r hr => n r (List.mem_cons_of_mem _ hr)) fun j hj => hk j (List.mem_cons_of_mem _ hj)
theorem Rel.thin {ks : List Nat} {r r' : R} {v : V} {ρ' : Rho} {J : Hp} (w : Rel K b σ H G ρ) (hk : b.kp.map (·.1) = ks) (q : Rv K b σ J H G ρ v r) (e : DL.thin ks r ρ = some (r', ρ')) :
    ∃ G', Rel K b σ H G' ρ' ∧ Ex G G' ∧ Rv K b σ J H G' ρ' v r' ∧ NoB r' ∧ (G' = G ∨ ∃ a h, v = .ref a ∧ G' = upd G a h ∧ ∃ i o, r = .bor i ∧ ρ[i]? = some (.own o)) ∧ ∀ (i : Nat) (o' : Own), ρ'[i]? = some (.own o') → ρ[i]? = some (.own o') := by
  cases r with
  | dat x => cases e; exact ⟨G, w, Ex.refl G, q, nob_dat _, .inl rfl, fun _ _ z => z⟩
  | own o => cases e; exact ⟨G, w, Ex.refl G, q, nob_own _, .inl rfl, fun _ _ z => z⟩
  | bor i =>
    unfold DL.thin at e
    dsimp only at e
    cases e1 : DL.frz ks (.bor i) ρ with
    | none => rw [e1] at e; cases e
    | some p =>
      obtain ⟨d, ρ1⟩ := p
      rw [e1] at e
      cases e
      obtain ⟨G1, w1, m1, x1, r1, n1, s1⟩ := w.frz hk (Fm.refl σ ρ H G) (J := H) (v := v) (r := .bor i) q e1
      refine ⟨G1, w1, x1, r1, nob_dat _, ?_, s1⟩
      rcases n1 with z | ⟨a, h, z1, z2, ⟨o, z3⟩ | z3⟩
      · exact .inl z
      · cases z3
      · exact .inr ⟨a, h, z1, z2, z3⟩
theorem Rel.thins {ks : List Nat} (hk : b.kp.map (·.1) = ks) {J : Hp} : ∀ {rs rs' : List R} {vs : List V} {G : Hp} {ρ ρ' : Rho}, Rel K b σ H G ρ → RvA K b σ J H G ρ vs rs → DL.thins ks rs ρ = some (rs', ρ') →
    ∃ G', Rel K b σ H G' ρ' ∧ Ex G G' ∧ RvA K b σ J H G' ρ' vs rs' ∧ (∀ r ∈ rs', NoB r) ∧ (∀ (j : Nat) (o : Own), rs'[j]? = some (.own o) → rs[j]? = some (.own o)) ∧
      (∀ (i : Nat) (o' : Own), ρ'[i]? = some (.own o') → ρ[i]? = some (.own o')) ∧ ∀ a, G a = none → (∀ (i : Nat) (o : Own), ρ[i]? = some (.own o) → σ[i]? ≠ some (some (.ref a))) → G' a = none
  | [], rs', vs, G, ρ, ρ', w, q, e => by
    cases q
    cases e
    exact ⟨G, w, Ex.refl G, .nil, fun _ h => by simp at h, fun _ _ h => h, fun _ _ h => h, fun _ h _ => h⟩
  | r :: rs, rs', vs, G, ρ, ρ', w, q, e => by
    cases q with
    | cons q1 q2 q3 =>
      rename_i v vs
      unfold DL.thins at e
      cases e1 : DL.thin ks r ρ with
      | none => rw [e1] at e; cases e
      | some p =>
        obtain ⟨r1, ρ1⟩ := p
        rw [e1] at e
        obtain ⟨G1, w1, x1, p1, b1, n1, s1⟩ := w.thin hk q1 e1
        have e' : Option.map (fun q : List R × Rho => (r1 :: q.1, q.2)) (DL.thins ks rs ρ1) = some (rs', ρ') := e
        cases e2 : DL.thins ks rs ρ1 with
        | none => rw [e2] at e'; cases e'
        | some p2 =>
          obtain ⟨rs2, ρ2⟩ := p2
          rw [e2] at e'
          cases e'
          have g1 : ∀ a, G a = none → (∀ (i : Nat) (o : Own), ρ[i]? = some (.own o) → σ[i]? ≠ some (some (.ref a))) → G1 a = none := fun a h n => by
            rcases n1 with rfl | ⟨c, h', rfl, rfl, i, o, rfl, ho⟩
            · exact h
            · rw [upd_ne (fun y => n i o ho (by rw [y]; exact q1))]; exact h
          have q3' : RvA K b σ J H G1 ρ1 vs rs := q3.past x1 s1 fun a j o' z1 z2 => by
            obtain ⟨c, h, y1, y2, y3, y4, y5, y6, y7⟩ := q3.at z1 z2
            cases y1
            exact g1 a y3 y6
          obtain ⟨G2, w2, x2, p2, b2, t2, s2, g2⟩ := Rel.thins hk w1 q3' e2
          have rown : ∀ o, r1 = .own o → r = .own o := fun o z => by
            cases r with
            | dat x => cases e1; exact z
            | own o => cases e1; exact z
            | bor i =>
              unfold DL.thin at e1
              dsimp only at e1
              cases e3 : DL.frz ks (.bor i) ρ with
              | none => rw [e3] at e1; cases e1
              | some p => rw [e3] at e1; cases e1; cases z
          refine ⟨G2, w2, x1.trans x2, .cons (p1.past x2 s2 fun a o z1 z2 => ?_) (fun a o z1 z2 j o' z3 => q2 a o (rown o z1) z2 j o' (t2 j o' z3)) p2, fun r' hr' => ?_, fun j o z => ?_, fun i o z => s1 i o (s2 i o z), fun a h n => ?_⟩
          · subst z1
            obtain ⟨c, h, y1, y2, y3, y4, y5, y6, y7⟩ := p1
            rw [z2] at y1
            cases y1
            exact g2 a y3 y6
          · rcases List.mem_cons.mp hr' with rfl | hr'
            · exact b1
            · exact b2 r' hr'
          · cases j with
            | zero => cases z; exact congrArg some (rown o rfl)
            | succ j => exact t2 j o z
          · exact g2 a (g1 a h n) fun i o z => n i o (s1 i o z)
end

/-! ### small statements -/
def wNext : SD := fun DD ρ => DD.nx ρ
def wSeq (s t : SD) : SD := fun DD ρ => s { DD with nx := t DD } ρ
def wBreak : SD := fun DD ρ => DD.bk ρ
def wCont : SD := fun DD ρ => DD.ct ρ
def wDrop (ta : TD) : SD := fun DD ρ => ta ρ fun _ ρ1 => DD.nx ρ1
def wRetN : SD := fun DD ρ => DD.rt (.dat .non) ρ
/-- what is handed back: a slot's object goes with it -/
def outR (ks : List Nat) (r : R) (ρ : Rho) (Q : R → Rho → Prop) : Prop := match r with
  | .bor i => if i ∈ ks then False else match ρ[i]? with
    | some (.own o) => Q (.own o) (ρ.set i .no)
    | some (.dat d) => Q (.dat d) ρ
    | _ => False
  | r => Q r ρ
def wRet (ks : List Nat) (ta : TD) : SD := fun DD ρ => ta ρ fun r ρ1 => outR ks r ρ1 DD.rt
def wIfS (t : TTD) (s u : SD) : SD := fun DD ρ => t ρ fun c ρ1 => if c = true then s DD ρ1 else u DD ρ1
def wAsg (ks : List Nat) (i : Nat) (ta : TD) : SD := fun DD ρ => ta ρ fun r ρ1 => if i ∈ ks then False else lk (thin ks r ρ1) fun p => DD.nx (p.2.set i p.1.sl)
/-- i, j = a, b of plain names -/
def wPar (ks is : List Nat) (ta : TAD) : SD := fun DD ρ => ta ρ fun rs ρ1 => (∀ i ∈ is, i ∉ ks) ∧ rs.length = is.length ∧ lk (thins ks rs ρ1) fun p => DD.nx (setR is p.1 p.2)
section
variable {X : Cx} {b : Bas} {ks : List Nat} {e : Expr} {es : List Expr} {st : Stmt} {rest body els : List Stmt} {ta : TD} {tt : TTD} {s t : SD} {tl : TAD} {pos : Pos}
theorem ss_nil : PSsD X b [] wNext := pss_weak pss_nil fun D σ H q => by
  obtain ⟨G, ρ, DD, w, q, n, _⟩ := q
  exact n σ H G ρ w (Ex.refl G) q
theorem ss_cons (h1 : PSD X b st s) (h2 : PSsD X b rest t) : PSsD X b (st :: rest) (wSeq s t) := pss_weak (pss_cons h1 h2) fun D σ H q => by
  obtain ⟨G, ρ, DD, w, q, n, r, bk, ct⟩ := q
  refine ⟨G, ρ, { DD with nx := t DD }, w, q, fun σ' H' G' ρ' w' x q' => ?_, r, bk, ct⟩
  exact ⟨G', ρ', DD, w', q', fun σ2 H2 G2 ρ2 w2 x2 => n σ2 H2 G2 ρ2 w2 (x.trans x2), fun v σ2 H2 G2 r2 ρ2 J w2 x2 => r v σ2 H2 G2 r2 ρ2 J w2 (x.trans x2), fun σ2 H2 G2 ρ2 w2 x2 => bk σ2 H2 G2 ρ2 w2 (x.trans x2), fun σ2 H2 G2 ρ2 w2 x2 => ct σ2 H2 G2 ρ2 w2 (x.trans x2)⟩
theorem ss_one (h1 : PSD X b st s) : PSsD X b [st] s := pss_one h1
theorem s_pass : PSD X b (.Pass pos) wNext := ps_weak ps_pass fun D σ H q => by
  obtain ⟨G, ρ, DD, w, q, n, _⟩ := q
  exact n σ H G ρ w (Ex.refl G) q
theorem s_break : PSD X b (.Break pos) wBreak := ps_weak ps_break fun D σ H q => by
  obtain ⟨G, ρ, DD, w, q, n, r, bk, _⟩ := q
  exact bk σ H G ρ w (Ex.refl G) q
theorem s_cont : PSD X b (.Continue pos) wCont := ps_weak ps_continue fun D σ H q => by
  obtain ⟨G, ρ, DD, w, q, n, r, bk, ct⟩ := q
  exact ct σ H G ρ w (Ex.refl G) q
theorem s_expr (he : PD X b e ta) (hs : swapsWith e none pos.line X.env = pure false := by rfl) : PSD X b (.Expr e pos) (wDrop ta) := ps_weak (ps_expr he hs) fun D σ H q => by
  obtain ⟨G, ρ, DD, w, q, n, _⟩ := q
  exact ⟨G, ρ, _, w, q, fun v H1 G1 r ρ1 w1 m1 q1 z => n σ H1 G1 ρ1 w1 m1.ex z⟩
theorem s_retN : PSD X b (.Return none pos) wRetN := ps_weak ps_retN fun D σ H q => by
  obtain ⟨G, ρ, DD, w, q, n, r, _⟩ := q
  exact r .non σ H G (.dat .non) ρ H w (Ex.refl G) .non q
theorem Rel.lose {K : PySem.W.Frag} {σ : L2.St} {H G : Hp} {ρ : Rho} {i : Nat} (w : Rel K b σ H G ρ) (hk : ∀ p ∈ b.kp, p.1 ≠ i) : Rel K b σ H G (ρ.set i .no) := by
  refine ⟨w.sub, w.bas, w.gro, w.prt, by rw [List.length_set]; exact w.len, fun j d hj => ?_, fun j o hj => ?_, fun j k o1 o2 c h1 h2 => ?_, fun p hp => ?_⟩
  · rcases set_at hj with ⟨rfl, e, hl⟩ | ⟨hn, hj⟩
    · cases e
    · exact w.dat j d hj
  · rcases set_at hj with ⟨rfl, e, hl⟩ | ⟨hn, hj⟩
    · cases e
    · exact w.own j o hj
  · rcases set_at h1 with ⟨rfl, e, hl⟩ | ⟨hn, h1⟩
    · cases e
    · rcases set_at h2 with ⟨rfl, e', hl'⟩ | ⟨hn', h2⟩
      · cases e'
      · exact w.dis j k o1 o2 c h1 h2
  · obtain ⟨z1, o, z2⟩ := w.kep p hp
    exact ⟨z1, o, by rw [set_ne (hk p hp)]; exact z2⟩
theorem s_ret (hk : b.kp.map (·.1) = ks) (he : PD X b e ta) : PSD X b (.Return (some e) pos) (wRet ks ta) := ps_weak (ps_ret he) fun D σ H q => by
  obtain ⟨G, ρ, DD, w, q, n, rt, _⟩ := q
  refine ⟨G, ρ, _, w, q, fun v H1 G1 r ρ1 w1 m1 q1 z => ?_⟩
  cases r with
  | dat d => exact rt v σ H1 G1 _ ρ1 H w1 m1.ex q1 z
  | own o => exact rt v σ H1 G1 _ ρ1 H w1 m1.ex q1 z
  | bor i =>
    unfold outR at z
    dsimp only at z
    split at z
    · exact z.elim
    · rename_i hi
      have hki : ∀ p ∈ b.kp, p.1 ≠ i := fun p hp e => hi (by rw [← hk, ← e]; exact List.mem_map_of_mem hp)
      have q1' : σ[i]? = some (some v) := q1
      split at z
      · rename_i o ho
        obtain ⟨a, h, h1, h2, h3, h4, h5⟩ := w1.own i o ho
        rw [h1] at q1'
        cases q1'
        refine rt _ σ H1 G1 (.own o) _ (fun _ => none) (w1.lose hki) m1.ex ⟨a, h, rfl, h2, h3, h4, h5, fun j o' z1 z2 => ?_, rfl⟩ z
        rcases set_at z1 with ⟨rfl, e, hl⟩ | ⟨hn, z1⟩
        · cases e
        · exact hn (w1.dis j i o' o a z1 ho z2 h1)
      · rename_i d hd
        obtain ⟨u, h1, h2⟩ := w1.dat i d hd
        rw [h1] at q1'
        cases q1'
        exact rt v σ H1 G1 (.dat d) ρ1 H w1 m1.ex h2 z
      · exact z.elim
theorem s_if {c : Expr} (hc : PTD X b c tt) (h1 : PSsD X b body s) (h2 : PSsD X b els t) : PSD X b (.If c body els pos) (wIfS tt s t) := ps_weak (ps_if hc h1 h2) fun D σ H q => by
  obtain ⟨G, ρ, DD, w, q, n, r, bk, ct⟩ := q
  refine ⟨G, ρ, _, w, q, fun c H1 G1 ρ1 w1 m1 z => ?_⟩
  have go : ∀ {u : SD}, u DD ρ1 → liftS X.K b u D σ H1 := fun {u} z => ⟨G1, ρ1, DD, w1, z, fun σ2 H2 G2 ρ2 w2 x2 => n σ2 H2 G2 ρ2 w2 (m1.ex.trans x2), fun v σ2 H2 G2 r2 ρ2 J w2 x2 => r v σ2 H2 G2 r2 ρ2 J w2 (m1.ex.trans x2),
    fun σ2 H2 G2 ρ2 w2 x2 => bk σ2 H2 G2 ρ2 w2 (m1.ex.trans x2), fun σ2 H2 G2 ρ2 w2 x2 => ct σ2 H2 G2 ρ2 w2 (m1.ex.trans x2)⟩
  cases c with
  | true => exact iteT (go z)
  | false => exact iteF (go z)
theorem asg_go {K : PySem.W.Frag} {i : Nat} (hk : b.kp.map (·.1) = ks) {D : Ends} {σ : L2.St} {H : Hp} (q : liftS K b (wAsg ks i ta) D σ H) : tAsg (lift K b ta) (gName i) D σ H := by
  obtain ⟨G, ρ, DD, w, q, n, _⟩ := q
  refine ⟨G, ρ, _, w, q, fun v H1 G1 r ρ1 w1 m1 q1 z => ?_⟩
  split at z
  · exact z.elim
  · rename_i hi
    obtain ⟨p, e1, z⟩ := lk_get z
    obtain ⟨r', ρ2⟩ := p
    obtain ⟨G2, w2, x2, p2, b2, _⟩ := w1.thin hk q1 e1
    exact n _ H1 G2 _ (w2.set p2 b2 fun p hp e => hi (by rw [← hk, ← e]; exact List.mem_map_of_mem hp)) (m1.ex.trans x2) z
theorem s_set {i : Nat} {x : Str} {pos' : Pos} (hk : b.kp.map (·.1) = ks) (hN : X.N.Nodup) (hi : X.N[i]? = some x) (hx : Loc X.env.scope x) (he : PD X b e ta) (hs : swapsWith e (some (.Name x pos')) pos.line X.env = pure false := by rfl)
    (hf : X.fn x = true ∨ X.env.scope.names.lookup x = some .local := by first | exact .inl rfl | exact .inr rfl | assumption) : PSD X b (.Assign [.Name x pos'] e pos) (wAsg ks i ta) :=
  ps_weak (ps_set hN hi hx he hs hf) fun _ _ _ q => asg_go hk q
theorem par_go {K : PySem.W.Frag} {is : List Nat} (hk : b.kp.map (·.1) = ks) {D : Ends} {σ : L2.St} {H : Hp} (q : liftS K b (wPar ks is tl) D σ H) : liftA K b tl σ H fun vs H1 => vs.length = is.length ∧ D.nx (setV is vs σ) H1 := by
  obtain ⟨G, ρ, DD, w, q, n, _⟩ := q
  refine ⟨G, ρ, _, w, q, fun vs H1 G1 rs ρ1 w1 m1 q1 z => ?_⟩
  obtain ⟨hi, hl, z⟩ := z
  obtain ⟨p, e1, z⟩ := lk_get z
  obtain ⟨rs', ρ2⟩ := p
  obtain ⟨G2, w2, x2, p2, b2, _⟩ := Rel.thins hk w1 q1 e1
  have len : ∀ {vs : List V} {rs : List R}, RvA K b σ H H1 G1 ρ1 vs rs → vs.length = rs.length := fun {vs rs} h => by
    induction h with
    | nil => rfl
    | cons _ _ _ ih => exact congrArg (· + 1) ih
  exact ⟨(len q1).trans hl, n _ H1 G2 _ (Rel.sets w2 p2 b2 fun i hm p hp e => hi i hm (by rw [← hk, ← e]; exact List.mem_map_of_mem hp)) (m1.ex.trans x2) z⟩
theorem s_par2 {i j : Nat} {x y : Str} {ea eb : Expr} {px py pt : Pos} {kt k2 pt2} (hk : b.kp.map (·.1) = ks) (hc : X.calm = true) (hN : X.N.Nodup) (hi : X.N[i]? = some x) (hj : X.N[j]? = some y) (hij : i ≠ j) (hx : X.env.scope.names.lookup x = some .local) (hy : X.env.scope.names.lookup y = some .local)
    (ha : PAD X b [ea, eb] tl) (hw : swappedStores [.Tuple [.Name x px, .Name y py] kt pt] (.Tuple [ea, eb] k2 pt2) X.env = pure (some [x, y]))
    (hs : swapsWithSole [.Tuple [.Name x px, .Name y py] kt pt] (.Tuple [ea, eb] k2 pt2) pos.line X.env = pure false := by rfl) :
    PSD X b (.Assign [.Tuple [.Name x px, .Name y py] kt pt] (.Tuple [ea, eb] k2 pt2) pos) (wPar ks [i, j] tl) :=
  ps_weak (ps_par hc hN hi hj hij hx hy ha hw hs) fun D σ H q => by
    obtain ⟨G, ρ, QD, w, q, k⟩ := par_go hk q
    refine ⟨G, ρ, QD, w, q, fun vs H1 G1 rs ρ1 w1 m1 q1 z => ?_⟩
    obtain ⟨hl, n⟩ := k vs H1 G1 rs ρ1 w1 m1 q1 z
    match vs, hl with
    | [v, u], _ => exact ⟨v, u, rfl, n⟩
end

/-! ### targets -/
abbrev GD := D → Rho → (Rho → Prop) → Prop
/-- is: the slots that are stored -/
def liftG (K : PySem.W.Frag) (b : Bas) (is : List Nat) (gd : GD) : TG := fun v σ H Q => ∃ G ρ d QD, Rel K b σ H G ρ ∧ Rp K G v d ∧ gd d ρ QD ∧
  ∀ σ' ρ', Rel K b σ' H G ρ' → σ'.length = σ.length → (∀ i, i ∉ is → σ'[i]? = σ[i]?) → (∀ i, i ∉ is → ρ'[i]? = ρ[i]?) → (∀ (i : Nat) (o : Own), ρ'[i]? = some (.own o) → ρ[i]? = some (.own o)) → QD ρ' → Q σ' H
def liftGs (K : PySem.W.Frag) (b : Bas) (is : List Nat) (gd : List D → Rho → (Rho → Prop) → Prop) : TGs := fun vs σ H Q => ∃ G ρ ds QD, Rel K b σ H G ρ ∧ RpA K G vs ds ∧ gd ds ρ QD ∧
  ∀ σ' ρ', Rel K b σ' H G ρ' → σ'.length = σ.length → (∀ i, i ∉ is → σ'[i]? = σ[i]?) → (∀ i, i ∉ is → ρ'[i]? = ρ[i]?) → (∀ (i : Nat) (o : Own), ρ'[i]? = some (.own o) → ρ[i]? = some (.own o)) → QD ρ' → Q σ' H
def hName (ks : List Nat) (i : Nat) : GD := fun d ρ Q => if i ∈ ks then False else Q (ρ.set i (.dat d))
def hNil : List D → Rho → (Rho → Prop) → Prop := fun ds ρ Q => ds = [] ∧ Q ρ
def hCons (g : GD) (r : List D → Rho → (Rho → Prop) → Prop) : List D → Rho → (Rho → Prop) → Prop := fun ds ρ Q => match ds with
  | [] => False
  | d :: ds => g d ρ fun ρ1 => r ds ρ1 Q
def hTup (n : Nat) (r : List D → Rho → (Rho → Prop) → Prop) : GD := fun d ρ Q => match d with
  | .tup ds => ds.length = n ∧ r ds ρ Q
  | .wt ds => ds.length = n ∧ r ds ρ Q
  | _ => False
section
variable {X : Cx} {b : Bas} {ks is js : List Nat} {pos : Pos}
theorem g_name {i : Nat} {x : Str} (hk : b.kp.map (·.1) = ks) (hN : X.N.Nodup) (hi : X.N[i]? = some x) (hx : Loc X.env.scope x) (hf : X.fn x = true ∨ X.env.scope.names.lookup x = some .local := by first | exact .inl rfl | exact .inr rfl | assumption) :
    PG X (.Name x pos) (liftG X.K b [i] (hName ks i)) := ⟨fun pins s σ H v u Q I r q => by
  refine (pg_name hN hi hx hf).run pins s σ H v u Q I r ?_
  obtain ⟨G, ρ, d, QD, w, q1, q2, k⟩ := q
  unfold hName at q2
  split at q2
  · exact q2.elim
  · rename_i hik
    have ne : ∀ {j : Nat}, j ∉ [i] → j ≠ i := fun {j} h e => h (by rw [e]; exact List.mem_singleton.mpr rfl)
    refine k _ _ (w.set (J := H) (r := .dat d) q1 (fun i z => by cases z) fun p hp e => hik (by rw [← hk, ← e]; exact List.mem_map_of_mem hp)) (by rw [List.length_set]) (fun j hj => set_ne (ne hj)) (fun j hj => set_ne (ne hj)) (fun j o hj => ?_) q2
    rcases set_at hj with ⟨rfl, e, hl⟩ | ⟨hn, hj⟩
    · cases e
    · exact hj⟩
theorem gs_nil : PGs X [] (liftGs X.K b [] hNil) := ⟨fun pins s σ H vs us Q I r q => by
  refine pgs_nil.run pins s σ H vs us Q I r ?_
  obtain ⟨G, ρ, ds, QD, w, q1, ⟨rfl, q2⟩, k⟩ := q
  cases q1
  exact ⟨rfl, k σ ρ w rfl (fun _ _ => rfl) (fun _ _ => rfl) (fun _ _ h => h) q2⟩⟩
theorem gs_cons {e : Expr} {es : List Expr} {g : GD} {gr : List D → Rho → (Rho → Prop) → Prop} (h1 : PG X e (liftG X.K b is g)) (h2 : PGs X es (liftGs X.K b js gr)) (hs : (assignEach (e :: es) X.env).map (·.2) = assign e X.env :: (assignEach es X.env).map (·.2) := by rfl) :
    PGs X (e :: es) (liftGs X.K b (is ++ js) (hCons g gr)) := ⟨fun pins s σ H vs us Q I r q => by
  refine (pgs_cons h1 h2 hs).run pins s σ H vs us Q I r ?_
  obtain ⟨G, ρ, ds, QD, w, q1, q2, k⟩ := q
  cases q1 with
  | nil => exact q2.elim
  | cons p1 p2 =>
    refine ⟨_, _, rfl, G, ρ, _, _, w, p1, q2, fun σ1 ρ1 w1 l1 y1 z1 n1 q3 => ?_⟩
    refine ⟨G, ρ1, _, QD, w1, p2, q3, fun σ2 ρ2 w2 l2 y2 z2 n2 q4 => ?_⟩
    exact k σ2 ρ2 w2 (l2.trans l1) (fun i hi => (y2 i fun h => hi (List.mem_append_right _ h)).trans (y1 i fun h => hi (List.mem_append_left _ h))) (fun i hi => (z2 i fun h => hi (List.mem_append_right _ h)).trans (z1 i fun h => hi (List.mem_append_left _ h))) (fun i o h => n1 i o (n2 i o h)) q4⟩
theorem g_tup {es : List Expr} {k n : Nat} {gr : List D → Rho → (Rho → Prop) → Prop} (hc : X.calm = true) (h : PGs X es (liftGs X.K b is gr)) (hn : (assignEach es X.env).length = n := by rfl) (hst : (assignEach es X.env).findIdx? (·.1) = none := by rfl) :
    PG X (.Tuple es k pos) (liftG X.K b is (hTup n gr)) := ⟨fun pins s σ H v u Q I r q => by
  refine (pg_tup hc h hn hst).run pins s σ H v u Q I r ?_
  obtain ⟨G, ρ, d, QD, w, q1, q2, k⟩ := q
  cases q1 with
  | tup p1 p2 => exact ⟨_, _, rfl, w.sub.sqt p1.1, p2.len.trans q2.1, G, ρ, _, QD, w, p2, q2.2, k⟩
  | wt p1 p2 => exact ⟨_, _, rfl, w.sub.sqt p1, p2.len.trans q2.1, G, ρ, _, QD, w, p2, q2.2, k⟩
  | non => exact q2.elim
  | bl c => exact q2.elim
  | int i => exact q2.elim
  | str x => exact q2.elim
  | lst p1 p2 => exact q2.elim
  | fzl p1 p2 => exact q2.elim
  | dct p1 p2 => exact q2.elim
  | ty n => exact q2.elim
  | cls C => exact q2.elim
  | ins p1 p2 => exact q2.elim⟩
end
/-- targets = value, the value data -/
def wUnp (ks : List Nat) (ta : TD) (g : GD) : SD := fun DD ρ => ta ρ fun r ρ1 => lk (frz ks r ρ1) fun p => g p.1 p.2 DD.nx
section
variable {X : Cx} {b : Bas} {ks is : List Nat} {e tg : Expr} {ta : TD} {pos : Pos}
theorem s_unp {g : GD} (hk : b.kp.map (·.1) = ks) (he : PD X b e ta) (hg : PG X tg (liftG X.K b is g)) (hs : swapsWithSole [tg] e pos.line X.env = pure false := by rfl) (hw : swappedStores [tg] e X.env = pure none := by rfl) (h1 : (assignEach [tg] X.env).map (·.2) = [assign tg X.env] := by rfl) :
    PSD X b (.Assign [tg] e pos) (wUnp ks ta g) := ps_weak (ps_asg he hg hs hw h1) fun D σ H q => by
  obtain ⟨G, ρ, DD, w, q, n, _⟩ := q
  refine ⟨G, ρ, _, w, q, fun v H1 G1 r ρ1 w1 m1 q1 z => ?_⟩
  obtain ⟨p, e1, z⟩ := lk_get z
  obtain ⟨d, ρ2⟩ := p
  obtain ⟨G2, w2, m2, x2, r2, _⟩ := w1.frz hk m1 q1 e1
  exact ⟨G2, ρ2, d, DD.nx, w2, r2, z, fun σ' ρ' w' _ _ _ _ z' => n σ' H1 G2 ρ' w' m2.ex z'⟩
end

/-! ### while -/
def whileN (t : TTD) (sb : SD) (DD : EndsD) : Nat → Rho → Prop
  | 0, _ => False
  | n + 1, ρ => t ρ fun c ρ1 => if c = true then sb { DD with nx := whileN t sb DD n, ct := whileN t sb DD n, bk := DD.nx } ρ1 else DD.nx ρ1
def wWhile (t : TTD) (sb : SD) : SD := fun DD ρ => ∃ n, whileN t sb DD n ρ
section
variable {X : Cx} {b : Bas} {c : Expr} {body : List Stmt} {tt : TTD} {s : SD} {pos : Pos}
theorem s_while (hp : PassesOwn (model X.prog X.w) X.A X.env X.xe) (hc : PTD X b c tt) (hb : PSsD X b body s) : PSD X b (.While c body [] pos) (wWhile tt s) := ps_weak (ps_while hp hc hb) fun D σ H q => by
  obtain ⟨G, ρ, DD, w, ⟨n0, q⟩, n, r, bk, ct⟩ := q
  refine ⟨fun m σ H => ∃ G1 ρ1, Rel X.K b σ H G1 ρ1 ∧ Ex G G1 ∧ whileN tt s DD m ρ1, ⟨n0, G, ρ, w, Ex.refl G, q⟩, fun m σ1 H1 q1 => ?_⟩
  obtain ⟨G1, ρ1, w1, x1, q1⟩ := q1
  cases m with
  | zero => exact q1.elim
  | succ m =>
    refine ⟨G1, ρ1, _, w1, q1, fun c H2 G2 ρ2 w2 m2 z => ?_⟩
    have x2 := x1.trans m2.ex
    cases c with
    | false => exact iteF (n σ1 H2 G2 ρ2 w2 x2 z)
    | true =>
      refine iteT ⟨fun σ' H' => ∃ G3 ρ3, Rel X.K b σ' H' G3 ρ3 ∧ Ex G G3 ∧ whileN tt s DD m ρ3, fun σ' H' h => ⟨m, Nat.lt_succ_self m, h⟩, ?_⟩
      exact ⟨G2, ρ2, _, w2, z, fun σ3 H3 G3 ρ3 w3 x3 z3 => ⟨G3, ρ3, w3, x2.trans x3, z3⟩, fun v σ3 H3 G3 r3 ρ3 J w3 x3 => r v σ3 H3 G3 r3 ρ3 J w3 (x2.trans x3), fun σ3 H3 G3 ρ3 w3 x3 z3 => n σ3 H3 G3 ρ3 w3 (x2.trans x3) z3, fun σ3 H3 G3 ρ3 w3 x3 z3 => ⟨G3, ρ3, w3, x2.trans x3, z3⟩⟩
end

/-! ### for -/
/-- what an iterator yields: these data -/
def ItD (K : PySem.W.Frag) (J : It) (ds : List D) (G : Hp) : Prop := ∀ (i : Nat) (H G1 : Hp), Ex G G1 → Ex G1 H → (∀ d, ds[i]? = some d → J.go i H ∧ ∀ x H', J.yld i H x H' → ∃ z, z.r = .dat d ∧ Out K H G1 x H' z) ∧ (ds.length ≤ i → J.stop i H)
abbrev TID := Rho → (List D → Rho → Prop) → Prop
def liftI (K : PySem.W.Frag) (b : Bas) (ti : TID) : TI := fun σ H R => ∃ G ρ QD, Rel K b σ H G ρ ∧ ti ρ QD ∧
  ∀ J H' G' ds ρ', Rel K b σ H' G' ρ' → Fm σ ρ H G ρ' H' G' → ItD K J ds G' → QD ds ρ' → R J H'
def forL (g : GD) (sb : SD) (DD : EndsD) : List D → Rho → Prop
  | [], ρ => DD.nx ρ
  | d :: ds, ρ => g d ρ fun ρ1 => sb { DD with nx := forL g sb DD ds, ct := forL g sb DD ds, bk := DD.nx } ρ1
def wFor (ti : TID) (g : GD) (sb : SD) : SD := fun DD ρ => ti ρ fun ds ρ1 => forL g sb DD ds ρ1
theorem drop_at {α : Type} {l : List α} {i : Nat} {x : α} (h : l[i]? = some x) : l.drop i = x :: l.drop (i + 1) := by
  obtain ⟨hl, e⟩ := List.getElem?_eq_some_iff.mp h
  rw [List.drop_eq_getElem_cons hl, e]
section
variable {X : Cx} {b : Bas} {ks is : List Nat} {iter tg : Expr} {body : List Stmt} {ti : TID} {g : GD} {s : SD} {pos : Pos}
theorem s_for (hp : PassesOwn (model X.prog X.w) X.A X.env X.xe) (hc : X.calm = true) (hi : PI X tg iter (liftI X.K b ti)) (hg : PG X tg (liftG X.K b is g)) (hb : PSsD X b body s) (hs : ∀ x, foldedSetIterable iter X.env x = pure x := by intro _; rfl) :
    PSD X b (.For tg iter body [] pos) (wFor ti g s) := ps_weak (ps_for hp hc hi hg hb hs) fun D σ H q => by
  obtain ⟨G, ρ, DD, w, q, n, r, bk, ct⟩ := q
  refine ⟨G, ρ, _, w, q, fun J H1 G1 ds ρ1 w1 m1 it z => ?_⟩
  refine ⟨fun i m σ H => m = ds.length - i ∧ ∃ G2 ρ2, Rel X.K b σ H G2 ρ2 ∧ Ex G1 G2 ∧ forL g s DD (ds.drop i) ρ2, ⟨ds.length, (Nat.sub_zero _).symm, G1, ρ1, w1, Ex.refl G1, z⟩, fun i m σ2 H2 q2 => ?_⟩
  obtain ⟨rfl, G2, ρ2, w2, x2, z2⟩ := q2
  have x02 := m1.ex.trans x2
  cases e : ds[i]? with
  | none =>
    have hl : ds.length ≤ i := List.getElem?_eq_none_iff.mp e
    rw [List.drop_eq_nil_of_le hl] at z2
    exact .inl ⟨(it i H2 G2 x2 w2.sub).2 hl, n σ2 H2 G2 ρ2 w2 x02 z2⟩
  | some d =>
    rw [drop_at e] at z2
    obtain ⟨g1, g2⟩ := (it i H2 G2 x2 w2.sub).1 d e
    have hl : i < ds.length := (List.getElem?_eq_some_iff.mp e).1
    refine .inr ⟨g1, fun σ H => ∃ G3 ρ3, Rel X.K b σ H G3 ρ3 ∧ Ex G1 G3 ∧ forL g s DD (ds.drop (i + 1)) ρ3, fun σ' H' h => ⟨ds.length - (i + 1), by omega, rfl, h⟩, fun x H' y => ?_⟩
    obtain ⟨zz, ez, o⟩ := g2 x H' y
    obtain ⟨G3, w3, m3, q3⟩ := o.go w2
    rw [ez] at q3
    refine ⟨G3, ρ2, d, _, w3, q3, z2, fun σ' ρ' w' _ _ _ _ z' => ?_⟩
    have x3 := x2.trans m3.ex
    have x03 := m1.ex.trans x3
    exact ⟨G3, ρ', _, w', z', fun σ4 H4 G4 ρ4 w4 x4 z4 => ⟨G4, ρ4, w4, x3.trans x4, z4⟩, fun v σ4 H4 G4 r4 ρ4 J w4 x4 => r v σ4 H4 G4 r4 ρ4 J w4 (x03.trans x4), fun σ4 H4 G4 ρ4 w4 x4 z4 => n σ4 H4 G4 ρ4 w4 (x03.trans x4) z4, fun σ4 H4 G4 ρ4 w4 x4 z4 => ⟨G4, ρ4, w4, x3.trans x4, z4⟩⟩
end
end DL

set_option Elab.async false
set_option maxRecDepth 100000
set_option maxHeartbeats 4000000
/-! DL4: promises over data, calls; comprehensions; objects that are changed. -/
namespace DL
open PySem PySem.Spec PyProof.Rows L2

/-! ### a def, called where no repr is under way -/
structure FnG (P : Program) (w : World) (K : PySem.W.Frag) (mg : Str → Option Value) (base : Heap) (CX : CXT) (k : Nat) (f : Addr) (fd : FuncData) (ps : List Str) (sp : Sp) : Prop where
  len : ∀ xs G Q E, sp xs G Q E → xs.length = ps.length
  run : ∀ (A : Around) (out : List Env) (st : Shared) (G : Hp) (ar : Args) (us : List Value) (xs : List V) (Q : VK) (E : XK), Room k A → A.guards = some [] → Env0 P w K mg base A out st G →
    BindsTo st fd ar (ps.zip us) → Vals xs us → sp xs G Q E → codeAny (model P w) A (.call (.ref f) ar) (CR CX out P w G st Q E) st
theorem FnG.more {P : Program} {w : World} {K : PySem.W.Frag} {mg : Str → Option Value} {base : Heap} {CX : CXT} {j k : Nat} {f : Addr} {fd : FuncData} {ps : List Str} {sp : Sp} (F : FnG P w K mg base CX j f fd ps sp) (h : j ≤ k) : FnG P w K mg base CX k f fd ps sp :=
  ⟨F.len, fun A out st G ar us xs Q E r => F.run A out st G ar us xs Q E (r.mono h)⟩
theorem FnG.less {P : Program} {w : World} {K : PySem.W.Frag} {mg : Str → Option Value} {base : Heap} {CX : CXT} {k : Nat} {f : Addr} {fd : FuncData} {ps : List Str} {sp sp' : Sp} (F : FnG P w K mg base CX k f fd ps sp) (h : ∀ xs G Q E, sp' xs G Q E → sp xs G Q E) : FnG P w K mg base CX k f fd ps sp' :=
  ⟨fun xs G Q E q => F.len xs G Q E (h xs G Q E q), fun A out st G ar us xs Q E r g e b v q => F.run A out st G ar us xs Q E r g e b v (h xs G Q E q)⟩
section
variable {P : Program} {w : World} {K : PySem.W.Frag} {mg : Str → Option Value} {base : Heap}
/-- a def keeps its promise if its body does -/
theorem fnG_mk {CX : CXT} {k : Nat} {x qual : Str} {st : Stmt} {f : Addr} {fd : FuncData} {N ps : List Str} {sp : Sp} (F : Fun K x qual st f fd) (S : FnScope N ps (defScope st)) (len : ∀ xs G Q E, sp xs G Q E → xs.length = ps.length)
    (body : ∀ (cdv : Value) (A : Around) (out : List Env) (s0 : Shared) (G : Hp) (xs : List V) (Q : VK) (E : XK), Room k (A.deeper (envOfC qual (defScope st) s0.heap.objs.size f cdv)) → A.guards = some [] → sp xs G Q E →
      ∃ t, PSs (cxOf CX P w K mg base N qual (defScope st) f cdv A out s0 G E) (defBody st) t ∧ t { nx := fun _ G' => Q .non G', rt := Q } (start N xs) G) : FnG P w K mg base CX (k + 1) f fd ps sp := by
  obtain ⟨c0, d0, e1, e2, e3, a0, cv, t0, z0, rfl, look, code⟩ := F.ex
  refine ⟨len, fun A out s0 G ar us xs Q E room grd env bind vals want => ?_⟩
  have count := len _ _ _ _ want
  have inn : K.In s0.heap := env.mod.kin.keeps fun p u z => (env.bs p u z).1
  have free : s0.heap.NoLimit := env.mod.nolimit.keeps fun p u z => (env.bs p u z).1
  refine codeAny_call_function room.depth (inn _ _ look) rfl S.co S.gen rfl (PySem.W.codeRec_of inn code) (bind _ _ _ _ ?_)
  refine wpAny_newFunctionEnv_cells S.kind (fun y hy => ?_) fun en hen s1 ic => ?_
  · rcases S.par y.1 (List.of_mem_zip (show (y.1, y.2) ∈ ps.zip us from hy)).1 with z | z
    · exact .inl z
    · exact .inr ⟨z, PySem.W.cellsFrom_some _ _ _ (.inl z)⟩
  · subst hen
    refine ⟨free.keeps ic.toInCall.keep, codeAny_func ?_⟩
    obtain ⟨t, deriv, holds⟩ := body cv A out s0 G xs Q E (room.deeper _) grd want
    have inv : Inv (cxOf CX P w K mg base N qual (defScope st) f cv A out s0 G E) [] (start N xs) G s1 := inv_start S room.hd env count vals ic
    have fin : ∀ {s2 : Shared} {σ2 : L2.St} {G2 : Hp} {v : V} {u : Value}, Inv (cxOf CX P w K mg base N qual (defScope st) f cv A out s0 G E) [] σ2 G2 s2 → RelV v u → Q v G2 → CE out P w G s0 Q u s2 :=
      fun {s2 σ2 G2 v u} i2 rv q2 => ⟨v, G2, i2.os, i2.bare, i2.base, i2.hok, rv, q2⟩
    refine wpAny_mono (deriv.run [] s1 _ G _ inv holds) (fun flow s2 out2 => ?_) fun _ _ h => h
    cases flow with
    | brk => obtain ⟨_, _, _, no⟩ := out2; exact no.elim
    | cont => obtain ⟨_, _, _, no⟩ := out2; exact no.elim
    | next =>
      obtain ⟨σ2, G2, i2, q2⟩ := out2
      exact fin (v := V.non) (u := Value.none) i2 rfl q2
    | ret u =>
      obtain ⟨v, σ2, G2, i2, rv, q2⟩ := out2
      exact fin i2 rv q2
end
section
variable {X : Cx} {CX : CXT} {k : Nat} {f C : Addr} {fd : FuncData} {ps : List Str} {sp : Sp} {E : XK} {x : Str} {p pos : Pos} {e : Expr} {es : List Expr} {t : TA}
theorem runG {pins : List (Addr × Obj)} {σ : L2.St} {H : Hp} {s : Shared} {Q : VK} {us : List Value} {xs : List V} (F : FnG X.prog X.w X.K X.mg X.base CX k f fd ps sp) (room : Room k X.A) (grd : X.A.guards = some []) (bind : Binds X.K fd ps []) (pass : Passes CX X E)
    (inv : Inv X pins σ H s) (vals : Vals xs us) (want : sp xs H Q E) : wpAny (model X.prog X.w) X.A (call (.ref f) us) (EP X pins σ Q) X.xe s := by
  have count : (us ++ []).length = ps.length := by rw [List.append_nil, ← vals.length]; exact F.len _ _ _ _ want
  have b2 := bind s us inv.kIn count
  rw [List.append_nil] at b2
  refine wpAny_call (codeAny_mono (F.run X.A X.stack s H ⟨us, []⟩ us xs Q E room grd inv.env0 b2 vals want) fun res s2 out => ?_)
  match res, out with
  | .ok (.ret u), h => exact inv.after h
  | .ok .next, h => exact h.elim
  | .ok .brk, h => exact h.elim
  | .ok .cont, h => exact h.elim
  | .error ex, h => exact pass pins σ H s ex s2 inv h
def tCallG (sp : Sp) (E : XK) (t : TA) : TE := fun σ H Q => t σ H fun vs H1 => sp vs H1 Q E
theorem pe_callG (F : FnG X.prog X.w X.K X.mg X.base CX k f fd ps sp) (room : Room k X.A) (grd : X.A.guards = some []) (hg : Gl X x) (hm : X.mg x = some (.ref f)) (kept : PySem.W.keepIn X.K (.ref f) = true) (bind : Binds X.K fd ps []) (pass : Passes CX X E)
    (args : PA X (e :: es) t) (hd : (x == ("__debug__" : Str)) = false := by decide) (hs : starEach (e :: es) X.env = (false, eval e X.env) :: starEach es X.env := by rfl) (hp : (backTo pos (starEach es X.env)).any (·.1) = false := by rfl) :
    PE X (.Call (.Name x p) (e :: es) [] pos) (tCallG sp E t) := by
  constructor
  intro pins s σ H Q inv q
  refine wpAny_Call_Name_kw (ld_glob inv hg hm (PySem.W.callWith_K (h₀ := X.base) inv.ok.mod.kin kept (thn (args.run pos pins s σ H _ inv q) fun us s1 h => ?_) hs hp) hd)
  obtain ⟨xs, H1, inv1, vals, want⟩ := h
  exact ⟨inv1.kIn, runG F room grd bind pass inv1 vals want⟩
theorem pe_callG0 (F : FnG X.prog X.w X.K X.mg X.base CX k f fd ps sp) (room : Room k X.A) (grd : X.A.guards = some []) (hg : Gl X x) (hm : X.mg x = some (.ref f)) (kept : PySem.W.keepIn X.K (.ref f) = true) (bind : Binds X.K fd ps []) (pass : Passes CX X E)
    (hd : (x == ("__debug__" : Str)) = false := by decide) : PE X (.Call (.Name x p) [] [] pos) (tCallG sp E tNil) := by
  constructor
  intro pins s σ H Q inv q
  exact wpAny_Call_Name_kw (ld_glob inv hg hm (PySem.W.callWith_K0 inv.kIn kept (runG (us := []) F room grd bind pass inv .nil q)) hd)
end

/-! ### promises over data -/
/-- an exception: its class, its own dict -/
structure Xc where
  C : Addr
  l : Option (List (Str × D))
abbrev DSp := List Sl → (R → List Sl → Prop) → (Xc → List Sl → Prop) → Prop
def RSl (K : PySem.W.Frag) (H G : Hp) (v : V) : Sl → Prop
  | .no => False
  | .dat d => Rp K G v d
  | .own o => ∃ a h, v = .ref a ∧ H a = some h ∧ G a = none ∧ RpO K G h o
inductive RSls (K : PySem.W.Frag) (H G : Hp) : List V → List Sl → Prop
  | nil : RSls K H G [] []
  | cons {v : V} {vs : List V} {s : Sl} {ss : List Sl} : RSl K H G v s → RSls K H G vs ss → RSls K H G (v :: vs) (s :: ss)
/-- the parameters that are handed on by reference -/
def kpOf : Nat → List V → List Sl → List (Nat × Addr)
  | n, .ref a :: vs, .own _ :: ss => (n, a) :: kpOf (n + 1) vs ss
  | n, _ :: vs, _ :: ss => kpOf (n + 1) vs ss
  | _, _, _ => []
def ixOf : Nat → List Sl → List Nat
  | n, .own _ :: ss => n :: ixOf (n + 1) ss
  | n, _ :: ss => ixOf (n + 1) ss
  | _, [] => []
theorem kpOf_ix {K : PySem.W.Frag} {H G : Hp} : ∀ {vs : List V} {ss : List Sl} (n : Nat), RSls K H G vs ss → (kpOf n vs ss).map (·.1) = ixOf n ss
  | _, _, n, .nil => rfl
  | _, _, n, .cons (s := s) h r => by
    cases s with
    | no => exact h.elim
    | dat d =>
      have := kpOf_ix (n + 1) r
      cases h <;> exact this
    | own o =>
      obtain ⟨a, h', rfl, _⟩ := h
      exact congrArg (n :: ·) (kpOf_ix (n + 1) r)
theorem kpOf_mem {K : PySem.W.Frag} {H G : Hp} : ∀ {vs : List V} {ss : List Sl} (n : Nat), RSls K H G vs ss → ∀ p ∈ kpOf n vs ss, ∃ j, p.1 = n + j ∧ vs[j]? = some (.ref p.2) ∧ ∃ o, ss[j]? = some (.own o)
  | _, _, n, .nil, p, h => by cases h
  | _, _, n, .cons (v := v) (vs := vs) (s := s) (ss := ss) h r, p, hp => by
    have go : p ∈ kpOf (n + 1) vs ss → ∃ j, p.1 = n + j ∧ (v :: vs)[j]? = some (.ref p.2) ∧ ∃ o, (s :: ss)[j]? = some (.own o) := fun hp => by
      obtain ⟨j, e1, e2, e3⟩ := kpOf_mem (n + 1) r p hp
      exact ⟨j + 1, by omega, e2, e3⟩
    cases s with
    | no => exact h.elim
    | dat d => cases h <;> exact go hp
    | own o =>
      obtain ⟨a, h', rfl, _⟩ := h
      rcases List.mem_cons.mp hp with rfl | hp
      · exact ⟨0, rfl, rfl, o, rfl⟩
      · exact go hp
theorem kpOf_has {K : PySem.W.Frag} {H G : Hp} : ∀ {vs : List V} {ss : List Sl} (n : Nat), RSls K H G vs ss → ∀ (j : Nat) (o : Own) (a : Addr), ss[j]? = some (.own o) → vs[j]? = some (.ref a) → (n + j, a) ∈ kpOf n vs ss
  | _, _, n, .nil, j, o, a, h, _ => by simp at h
  | _, _, n, .cons (vs := vs) (s := s) (ss := ss) h r, j, o, a, h1, h2 => by
    cases j with
    | zero =>
      cases h1
      obtain ⟨a', h', rfl, _⟩ := h
      cases h2
      exact List.mem_cons_self
    | succ j =>
      have ih := kpOf_has (n + 1) r j o a h1 h2
      have e : n + 1 + j = n + (j + 1) := by omega
      rw [e] at ih
      cases s with
      | no => exact h.elim
      | dat d => cases h <;> exact ih
      | own o =>
        obtain ⟨a', h', rfl, _⟩ := h
        exact List.mem_cons_of_mem _ ih
theorem RSls.len {K : PySem.W.Frag} {H G : Hp} : ∀ {vs : List V} {ss : List Sl}, RSls K H G vs ss → vs.length = ss.length
  | _, _, .nil => rfl
  | _, _, .cons _ r => congrArg (· + 1) r.len
theorem RSls.at {K : PySem.W.Frag} {H G : Hp} : ∀ {vs : List V} {ss : List Sl}, RSls K H G vs ss → ∀ {j : Nat} {s : Sl}, ss[j]? = some s → ∃ v, vs[j]? = some v ∧ RSl K H G v s
  | _, _, .nil, j, s, h => by simp at h
  | _, _, .cons h _, 0, s, e => by cases e; exact ⟨_, rfl, h⟩
  | _, _, .cons _ r, j + 1, s, e => by
    obtain ⟨v, h1, h2⟩ := RSls.at r (j := j) (s := s) (by simpa using e)
    exact ⟨v, by simpa using h1, h2⟩
/-- what a call leaves -/
structure Back (K : PySem.W.Frag) (kp : List (Nat × Addr)) (H G : Hp) (args' : List Sl) (H' G' : Hp) : Prop where
  sub : Ex G' H'
  ex : Ex G G'
  kep : ∀ (a : Addr) (o : HO), H a = some o → (∀ p ∈ kp, p.2 ≠ a) → H' a = some o ∧ (G a = none → G' a = none)
  dm : ∀ (a : Addr), H' a = none → H a = none
  ow : ∀ p ∈ kp, ∃ o h, args'[p.1]? = some (.own o) ∧ H' p.2 = some h ∧ G' p.2 = none ∧ RpO K G' h o
def Res (K : PySem.W.Frag) (H H' G' : Hp) (v : V) : R → Prop
  | .dat d => Rp K G' v d
  | .own o => ∃ a h, v = .ref a ∧ H' a = some h ∧ G' a = none ∧ RpO K G' h o ∧ H a = none
  | .bor _ => False
def RX (K : PySem.W.Frag) (H' G' : Hp) (d : Option Addr) : Option (List (Str × D)) → Prop
  | none => d = none
  | some l => ∃ a fs, d = some a ∧ H' a = some (.xd fs) ∧ RpF K G' fs l
def toSp (K : PySem.W.Frag) (sp : DSp) : Sp := fun vs H Q E => ∃ G args QD ED, Ex G H ∧ RSls K H G vs args ∧ ((kpOf 0 vs args).map (·.2)).Nodup ∧ sp args QD ED ∧
  (∀ v H' G' r args', Back K (kpOf 0 vs args) H G args' H' G' → Res K H H' G' v r → QD r args' → Q v H') ∧
  (∀ d H' G' x args', Back K (kpOf 0 vs args) H G args' H' G' → RX K H' G' d x.l → ED x args' → E (.ref x.C) d H')
/-- the ground of a def's body -/
def basOf (vs : List V) (args : List Sl) (H G : Hp) : Bas := { B := fun a => if a ∈ (kpOf 0 vs args).map (·.2) then none else H a, G0 := G, kp := kpOf 0 vs args }
section
variable {K : PySem.W.Frag} {H G : Hp} {vs : List V} {args : List Sl}
theorem nodup_snd {α β : Type} {l : List (α × β)} (h : (l.map (·.2)).Nodup) {p q : α × β} (hp : p ∈ l) (hq : q ∈ l) (e : p.2 = q.2) : p = q := by
  induction l with
  | nil => cases hp
  | cons x r ih =>
    rw [List.map_cons, List.nodup_cons] at h
    rcases List.mem_cons.mp hp with z1 | z1 <;> rcases List.mem_cons.mp hq with z2 | z2
    · rw [z1, z2]
    · exact absurd (by rw [← z1, e]; exact List.mem_map_of_mem z2) h.1
    · exact absurd (by rw [← z2, ← e]; exact List.mem_map_of_mem z1) h.1
    · exact ih h.2 z1 z2
theorem rel_start {N : List Str} (hs : Ex G H) (h : RSls K H G vs args) (nd : ((kpOf 0 vs args).map (·.2)).Nodup) : Rel K (basOf vs args H G) (L2.start N vs) H G (args ++ List.replicate (N.length - args.length) .no) := by
  have hl := h.len
  have inA : ∀ {i : Nat} {s : Sl}, s ≠ .no → (args ++ List.replicate (N.length - args.length) Sl.no)[i]? = some s → args[i]? = some s := fun {i s} hn e => by
    by_cases hi : i < args.length
    · rw [List.getElem?_append_left hi] at e; exact e
    · rw [List.getElem?_append_right (by omega), List.getElem?_replicate] at e
      split at e
      · cases e; exact absurd rfl hn
      · cases e
  have inV : ∀ {i : Nat} {v : V}, vs[i]? = some v → (L2.start N vs)[i]? = some (some v) := fun {i v} e => by
    have hi : i < vs.length := (List.getElem?_eq_some_iff.mp e).1
    unfold L2.start
    rw [List.getElem?_append_left (by rw [List.length_map]; exact hi), List.getElem?_map, e]
    rfl
  have own1 : ∀ {i : Nat} {o : Own}, args[i]? = some (.own o) → ∃ a hh, vs[i]? = some (.ref a) ∧ H a = some hh ∧ G a = none ∧ RpO K G hh o ∧ (i, a) ∈ kpOf 0 vs args := fun {i o} e => by
    obtain ⟨v, e1, a, hh, rfl, z1, z2, z3⟩ := h.at e
    have := kpOf_has 0 h i o a e e1
    rw [Nat.zero_add] at this
    exact ⟨a, hh, e1, z1, z2, z3, this⟩
  refine ⟨hs, fun a o e => ?_, Ex.refl G, fun a _ e => e, ?_, fun i d e => ?_, fun i o e => ?_, fun i j o o' a e1 e2 e3 e4 => ?_, fun p hp => ?_⟩
  · have e' : (if a ∈ (kpOf 0 vs args).map (·.2) then none else H a) = some o := e
    split at e'
    · cases e'
    · exact e'
  · unfold L2.start
    rw [List.length_append, List.length_append, List.length_map, List.length_replicate, List.length_replicate, hl]
  · obtain ⟨v, e1, e2⟩ := h.at (inA (by intro z; cases z) e)
    exact ⟨v, inV e1, e2⟩
  · obtain ⟨a, hh, e1, z1, z2, z3, z4⟩ := own1 (inA (by intro z; cases z) e)
    refine ⟨a, hh, inV e1, z1, z2, ?_, z3⟩
    show (if a ∈ (kpOf 0 vs args).map (·.2) then none else H a) = none
    rw [if_pos (List.mem_map_of_mem z4)]
  · obtain ⟨a1, _, f1, _, _, _, m1⟩ := own1 (inA (by intro z; cases z) e1)
    obtain ⟨a2, _, f2, _, _, _, m2⟩ := own1 (inA (by intro z; cases z) e2)
    have g1 := inV f1
    have g2 := inV f2
    rw [e3] at g1
    rw [e4] at g2
    cases g1
    cases g2
    have := nodup_snd nd m1 m2 rfl
    cases this
    rfl
  · obtain ⟨j, e1, e2, o, e3⟩ := kpOf_mem 0 h p hp
    rw [Nat.zero_add] at e1
    subst e1
    refine ⟨inV e2, o, ?_⟩
    rw [List.getElem?_append_left (List.getElem?_eq_some_iff.mp e3).1]
    exact e3
/-- at the end of a body -/
theorem rel_back {σ : L2.St} {H' G' : Hp} {ρ : Rho} (h : RSls K H G vs args) (w : Rel K (basOf vs args H G) σ H' G' ρ) : Back K (kpOf 0 vs args) H G (ρ.take args.length) H' G' := by
  have inB : ∀ {a : Addr}, (∀ p ∈ kpOf 0 vs args, p.2 ≠ a) → (basOf vs args H G).B a = H a := fun {a} n => if_neg fun z => by
    obtain ⟨p, hp, e⟩ := List.mem_map.mp z
    exact n p hp e
  have atOw : ∀ p ∈ kpOf 0 vs args, ∃ o hh, (ρ.take args.length)[p.1]? = some (.own o) ∧ H' p.2 = some hh ∧ G' p.2 = none ∧ RpO K G' hh o := fun p hp => by
    obtain ⟨e1, o, e2⟩ := w.kep p hp
    obtain ⟨a, hh, f1, f2, f3, f4, f5⟩ := w.own p.1 o e2
    rw [e1] at f1
    cases f1
    obtain ⟨j, g1, g2, o', g3⟩ := kpOf_mem 0 h p hp
    have hj : p.1 < args.length := by
      have := (List.getElem?_eq_some_iff.mp g3).1
      omega
    exact ⟨o, hh, by rw [List.getElem?_take_of_lt hj]; exact e2, f2, f3, f5⟩
  refine ⟨w.sub, w.gro, fun a o e n => ?_, fun a e => ?_, atOw⟩
  · have hb := inB n
    refine ⟨w.bas a o (by rw [hb]; exact e), fun g => w.prt a (by rw [hb, e]; exact fun z => by cases z) g⟩
  · cases q : H a with
    | none => rfl
    | some o =>
      by_cases n : ∀ p ∈ kpOf 0 vs args, p.2 ≠ a
      · have := w.bas a o (by rw [inB n]; exact q)
        rw [e] at this; cases this
      · exfalso
        refine n fun p hp z => ?_
        obtain ⟨o', hh, _, f, _⟩ := atOw p hp
        rw [z, e] at f; cases f
theorem rel_res {σ : L2.St} {H' G' J : Hp} {ρ : Rho} {v : V} {r : R} (h : RSls K H G vs args) (w : Rel K (basOf vs args H G) σ H' G' ρ) (q : Rv K (basOf vs args H G) σ J H' G' ρ v r) (hr : NoB r) : Res K H H' G' v r := by
  cases r with
  | dat d => exact q
  | bor i => exact absurd rfl (hr i)
  | own o =>
    obtain ⟨a, hh, rfl, z1, z2, z3, z4, z5, z6⟩ := q
    refine ⟨a, hh, rfl, z1, z2, z4, ?_⟩
    have z3' : (if a ∈ (kpOf 0 vs args).map (·.2) then none else H a) = none := z3
    split at z3'
    · rename_i hm
      obtain ⟨p, hp, e⟩ := List.mem_map.mp hm
      subst e
      obtain ⟨e1, o', e2⟩ := w.kep p hp
      exact absurd e1 (z5 p.1 o' e2)
    · exact z3'
end
section
variable {P : Program} {w : World} {K : PySem.W.Frag} {mg : Str → Option Value} {base : Heap}
theorem RSls.n {H G : Hp} {vs : List V} {args : List Sl} (h : RSls K H G vs args) (n : Nat) (e : args.length = n) : vs.length = n := h.len.trans e
/-- nothing that is handed back is a slot's -/
def EndsD.noB (D : EndsD) : Prop := ∀ i ρ, D.rt (.bor i) ρ → False
/-- a def that raises nothing keeps a promise over data -/
theorem fnG_ok {k : Nat} {x qual : Str} {st : Stmt} {f : Addr} {fd : FuncData} {N ps : List Str} {sp : DSp} (F : Fun K x qual st f fd) (S : FnScope N ps (defScope st)) (len : ∀ args QD ED, sp args QD ED → args.length = ps.length)
    (body : ∀ (cdv : Value) (A : Around) (out : List Env) (s0 : Shared) (H : Hp) (b : Bas) (args : List Sl) (QD : R → List Sl → Prop) (ED : Xc → List Sl → Prop) (E : XK), Room k (A.deeper (envOfC qual (defScope st) s0.heap.objs.size f cdv)) → (A.deeper (envOfC qual (defScope st) s0.heap.objs.size f cdv)).guards = some [] →
      b.kp.map (·.1) = ixOf 0 args → sp args QD ED →
      ∃ sd, PSsD (cxOf CX0 P w K mg base N qual (defScope st) f cdv A out s0 H E).nox b (defBody st) sd ∧
        sd { nx := fun ρ => QD (.dat .non) (ρ.take args.length), rt := fun r ρ => match r with | .bor _ => False | r => QD r (ρ.take args.length) } (args ++ List.replicate (N.length - args.length) .no)) : FnG P w K mg base CX0 (k + 1) f fd ps (toSp K sp) := by
  refine fnG_mk F S (fun xs H Q E h => ?_) fun cdv A out s0 H xs Q E room grd h => ?_
  · obtain ⟨G, args, QD, ED, hs, ra, nd, h, _⟩ := h
    exact ra.len.trans (len args QD ED h)
  · obtain ⟨G, args, QD, ED, hs, ra, nd, h, kq, ke⟩ := h
    obtain ⟨sd, d, q⟩ := body cdv A out s0 H (basOf xs args H G) args QD ED E room grd (kpOf_ix 0 ra) h
    refine ⟨_, d.nox, G, _, _, rel_start hs ra nd, q, fun σ' H' G' ρ' w' x z => ?_, fun v σ' H' G' r ρ' J w' x qv z => ?_, fun _ _ _ _ _ _ z => z, fun _ _ _ _ _ _ z => z⟩
    · exact kq .non H' G' (.dat .non) _ (rel_back ra w') .non z
    · cases r with
      | dat d => exact kq v H' G' (.dat d) _ (rel_back ra w') (rel_res ra w' qv (nob_dat d)) z
      | own o => exact kq v H' G' (.own o) _ (rel_back ra w') (rel_res ra w' qv (nob_own o)) z
      | bor i => exact z.elim
end
end DL

set_option Elab.async false
set_option maxRecDepth 100000
set_option maxHeartbeats 4000000
/-! DL5: calls of defs by their promises; objects that are changed; fields; comprehensions. -/
namespace DL
open PySem PySem.Spec PyProof.Rows L2

section
variable {K : PySem.W.Frag} {b : Bas} {σ : L2.St} {H G H' G' : Hp} {ρ : Rho}
/-- behind something that keeps all there is -/
theorem Rel.on (w : Rel K b σ H G ρ) (sub : Ex G' H') (ex : Ex G G') (kep : ∀ (c : Addr) (u : HO), H c = some u → H' c = some u ∧ (G c = none → G' c = none)) : Rel K b σ H' G' ρ where
  sub := sub
  bas := fun a o e => (kep a o (w.bas a o e)).1
  gro := w.gro.trans ex
  prt := fun a h1 h2 => by
    cases q : b.B a with
    | none => exact absurd q h1
    | some o => exact (kep a o (w.bas a o q)).2 (w.prt a h1 h2)
  len := w.len
  dat := fun i d e => by
    obtain ⟨v, z1, z2⟩ := w.dat i d e
    exact ⟨v, z1, z2.up ex⟩
  own := fun i o e => by
    obtain ⟨a, h, z1, z2, z3, z4, z5⟩ := w.own i o e
    exact ⟨a, h, z1, (kep a h z2).1, (kep a h z2).2 z3, z4, z5.up ex⟩
  dis := w.dis
  kep := w.kep
theorem Fm.on (ex : Ex G G') (kep : ∀ (c : Addr) (u : HO), H c = some u → H' c = some u ∧ (G c = none → G' c = none)) (dm : ∀ a, H' a = none → H a = none) : Fm σ ρ H G ρ H' G' :=
  ⟨ex, fun a o h _ => kep a o h, fun _ o h => ⟨o, h⟩, dm⟩
/-- behind something that changes the object of one slot -/
theorem Rel.chg {i : Nat} {o o' : Own} {a : Addr} {h' : HO} (w : Rel K b σ H G ρ) (hr : ρ[i]? = some (.own o)) (ha : σ[i]? = some (some (.ref a))) (sub : Ex G' H') (ex : Ex G G') (kep : ∀ (c : Addr) (u : HO), H c = some u → c ≠ a → H' c = some u ∧ (G c = none → G' c = none))
    (hat : H' a = some h') (hg : G' a = none) (r : RpO K G' h' o') : Rel K b σ H' G' (ρ.set i (.own o')) := by
  obtain ⟨a', h0, q1, q2, q3, q4, q5⟩ := w.own i o hr
  rw [ha] at q1
  cases q1
  have il : i < ρ.length := (List.getElem?_eq_some_iff.mp hr).1
  have nb : ∀ c, b.B c ≠ none → c ≠ a := fun c h z => h (by rw [z]; exact q4)
  have old : ∀ (j : Nat) (o1 : Own), (ρ.set i (.own o'))[j]? = some (.own o1) → ∃ o2, ρ[j]? = some (.own o2) := fun j o1 z => by
    rcases set_at z with ⟨rfl, _, _⟩ | ⟨_, z⟩
    · exact ⟨o, hr⟩
    · exact ⟨o1, z⟩
  refine ⟨sub, fun c u e => ?_, w.gro.trans ex, fun c h1 h2 => ?_, by rw [List.length_set]; exact w.len, fun j d e => ?_, fun j o1 e => ?_, fun j k o1 o2 c e1 e2 e3 e4 => ?_, fun p hp => ?_⟩
  · exact (kep c u (w.bas c u e) (nb c (by rw [e]; exact fun z => by cases z))).1
  · cases q : b.B c with
    | none => exact absurd q h1
    | some u => exact (kep c u (w.bas c u q) (nb c h1)).2 (w.prt c h1 h2)
  · rcases set_at e with ⟨rfl, e, hl⟩ | ⟨hn, e⟩
    · cases e
    · obtain ⟨v, z1, z2⟩ := w.dat j d e
      exact ⟨v, z1, z2.up ex⟩
  · rcases set_at e with ⟨rfl, e, hl⟩ | ⟨hn, e⟩
    · cases e
      exact ⟨a, h', ha, hat, hg, q4, r⟩
    · obtain ⟨c, h, z1, z2, z3, z4, z5⟩ := w.own j o1 e
      have hc : c ≠ a := fun z => by subst z; exact hn (w.dis j i o1 o c e hr z1 ha)
      exact ⟨c, h, z1, (kep c h z2 hc).1, (kep c h z2 hc).2 z3, z4, z5.up ex⟩
  · obtain ⟨o3, e1⟩ := old j o1 e1
    obtain ⟨o4, e2⟩ := old k o2 e2
    exact w.dis j k o3 o4 c e1 e2 e3 e4
  · obtain ⟨z1, o1, z2⟩ := w.kep p hp
    by_cases hi : p.1 = i
    · exact ⟨z1, o', by rw [hi]; exact set_eq il⟩
    · exact ⟨z1, o1, by rw [set_ne hi]; exact z2⟩
theorem Fm.chg {i : Nat} {o o' : Own} {a : Addr} (hr : ρ[i]? = some (.own o)) (ha : σ[i]? = some (some (.ref a))) (ex : Ex G G') (kep : ∀ (c : Addr) (u : HO), H c = some u → c ≠ a → H' c = some u ∧ (G c = none → G' c = none))
    (dm : ∀ a, H' a = none → H a = none) : Fm σ ρ H G (ρ.set i (.own o')) H' G' :=
  ⟨ex, fun c u h n => kep c u h fun z => n i o hr (by rw [z]; exact ha), fun j o1 z => by
    rcases set_at z with ⟨rfl, _, _⟩ | ⟨_, z⟩
    · exact ⟨o, hr⟩
    · exact ⟨o1, z⟩, dm⟩
theorem Rv.res {v : V} {r : R} {J : Hp} {ρ' : Rho} (w : Rel K b σ H G ρ) (ow : ∀ (i : Nat) (o : Own), ρ'[i]? = some (.own o) → ∃ o', ρ[i]? = some (.own o')) (dm : ∀ a, H a = none → J a = none) (q : Res K H H' G' v r) : Rv K b σ J H' G' ρ' v r := by
  cases r with
  | dat d => exact q
  | bor i => exact q.elim
  | own o =>
    obtain ⟨a, h, rfl, z1, z2, z3, z4⟩ := q
    refine ⟨a, h, rfl, z1, z2, w.bas.gone z4, z3, fun i o' e => ?_, dm a z4⟩
    obtain ⟨o2, e⟩ := ow i o' e
    exact w.apart z4 i o2 e
theorem RpA.sls {vs : List V} {ds : List D} {H : Hp} (r : RpA K G vs ds) : RSls K H G vs (ds.map .dat) := by
  induction ds generalizing vs with
  | nil => cases r; exact .nil
  | cons d ds ih => cases r with | cons h r => exact .cons h (ih r)
theorem kpOf_dat : ∀ (vs : List V) (ds : List D) (n : Nat), kpOf n vs (ds.map .dat) = []
  | [], [], _ => rfl
  | [], _ :: _, _ => rfl
  | v :: vs, [], _ => by cases v <;> rfl
  | v :: vs, d :: ds, n => by
    have := kpOf_dat vs ds (n + 1)
    cases v <;> exact this
end

/-! ### calls -/
/-- f(..), every argument as data -/
def wCall (ks : List Nat) (sp : DSp) (t : TAD) : TD := fun ρ Q => t ρ fun rs ρ1 => lk (frzs ks rs ρ1) fun p => sp (p.1.map .dat) (fun r _ => Q r p.2) fun _ _ => False
/-- f(x, ..), the object of the name x by reference -/
def wCallR (ks : List Nat) (sp : DSp) (t : TAD) : TD := fun ρ Q => t ρ fun rs ρ1 => match rs with
  | .bor i :: rest => lk (frzs ks rest ρ1) fun p => match p.2[i]? with
    | some (.own o) => sp (.own o :: p.1.map .dat) (fun r args' => match args' with
      | .own o' :: _ => Q r (p.2.set i (.own o'))
      | _ => False) fun _ _ => False
    | _ => False
  | _ => False
section
variable {K : PySem.W.Frag} {b : Bas} {ks : List Nat} {sp : DSp} {t : TAD} {E : XK} {σ : L2.St} {H : Hp} {Q : VK}
theorem call_go (hk : b.kp.map (·.1) = ks) (q : lift K b (wCall ks sp t) σ H Q) : tCallG (toSp K sp) E (liftA K b t) σ H Q := by
  obtain ⟨G, ρ, QD, w, q, k⟩ := q
  refine ⟨G, ρ, _, w, q, fun vs H1 G1 rs ρ1 w1 m1 q1 z => ?_⟩
  obtain ⟨p, e1, z⟩ := lk_get z
  obtain ⟨ds, ρ2⟩ := p
  obtain ⟨G2, w2, m2, r2, x2⟩ := Rel.frzs hk w1 m1 q1 e1
  refine ⟨G2, ds.map .dat, _, _, w2.sub, r2.sls, by rw [kpOf_dat]; exact List.nodup_nil, z, fun v H' G' r args' bk rs z' => ?_, fun _ _ _ _ _ _ _ z' => z'.elim⟩
  rw [kpOf_dat] at bk
  have kep : ∀ (c : Addr) (u : HO), H1 c = some u → H' c = some u ∧ (G2 c = none → G' c = none) := fun c u h => bk.kep c u h fun _ hp => by cases hp
  have m3 : Fm σ ρ2 H1 G2 ρ2 H' G' := Fm.on bk.ex kep bk.dm
  exact k v H' G' r ρ2 (w2.on bk.sub bk.ex kep) (m2.trans m3) (Rv.res w2 (fun _ o h => ⟨o, h⟩) m2.dm rs) z'
theorem callR_go (hk : b.kp.map (·.1) = ks) (q : lift K b (wCallR ks sp t) σ H Q) : tCallG (toSp K sp) E (liftA K b t) σ H Q := by
  obtain ⟨G, ρ, QD, w, q, k⟩ := q
  refine ⟨G, ρ, _, w, q, fun vs H1 G1 rs ρ1 w1 m1 q1 z => ?_⟩
  cases q1 with
  | nil => exact z.elim
  | cons p1 p2 p3 =>
    rename_i v vs r rs
    cases r with
    | dat d => exact z.elim
    | own o => exact z.elim
    | bor i =>
      have p1' : σ[i]? = some (some v) := p1
      obtain ⟨p, e1, z⟩ := lk_get z
      obtain ⟨ds, ρ2⟩ := p
      obtain ⟨G2, w2, m2, r2, x2⟩ := Rel.frzs hk w1 m1 p3 e1
      dsimp only at z
      split at z
      · rename_i o ho
        obtain ⟨a, h, z1, z2, z3, z4, z5⟩ := w2.own i o ho
        rw [z1] at p1'
        cases p1'
        have ekp : kpOf 0 (V.ref a :: vs) (.own o :: ds.map .dat) = [(0, a)] := by
          show (0, a) :: kpOf 1 vs (ds.map .dat) = [(0, a)]
          rw [kpOf_dat]
        refine ⟨G2, .own o :: ds.map .dat, _, _, w2.sub, .cons ⟨a, h, rfl, z2, z3, z5⟩ r2.sls, by rw [ekp]; exact List.nodup_cons.mpr ⟨by simp, List.nodup_nil⟩, z, fun v H' G' r args' bk rs z' => ?_, fun _ _ _ _ _ _ _ z' => z'.elim⟩
        rw [ekp] at bk
        obtain ⟨o', h', y1, y2, y3, y4⟩ := bk.ow (0, a) List.mem_cons_self
        have kep : ∀ (c : Addr) (u : HO), H1 c = some u → c ≠ a → H' c = some u ∧ (G2 c = none → G' c = none) := fun c u h n => bk.kep c u h fun p hp e => by
          rcases List.mem_cons.mp hp with rfl | hp
          · exact n e.symm
          · cases hp
        split at z'
        · rename_i o2 rest
          have e2 : o2 = o' := by
            have y1' : some (Sl.own o2) = some (Sl.own o') := y1
            cases y1'
            rfl
          subst e2
          have m3 : Fm σ ρ2 H1 G2 (ρ2.set i (.own o2)) H' G' := Fm.chg ho z1 bk.ex kep bk.dm
          exact k v H' G' r _ (w2.chg ho z1 bk.sub bk.ex kep y2 y3 y4) (m2.trans m3) (Rv.res w2 m3.ow m2.dm rs) z'
        · exact z'.elim
      · exact z.elim
end
section
variable {X : Cx} {b : Bas} {CX : CXT} {k : Nat} {f : Addr} {fd : FuncData} {ps : List Str} {sp : DSp} {x : Str} {p pos : Pos} {e : Expr} {es : List Expr} {t : TAD} {ks : List Nat}
/-- what a caller knows of a def that raises nothing -/
structure Known (X : Cx) (k : Nat) (x : Str) (sp : DSp) : Prop where
  ex : ∃ (f : Addr) (fd : FuncData) (ps : List Str), FnG X.prog X.w X.K X.mg X.base CX0 k f fd ps (toSp X.K sp) ∧ X.mg x = some (.ref f) ∧ PySem.W.keepIn X.K (.ref f) = true ∧ Binds X.K fd ps []
theorem d_call (hk : b.kp.map (·.1) = ks) (F : Known X k x sp) (room : Room k X.A) (grd : X.A.guards = some []) (hg : Gl X x) (args : PAD X b (e :: es) t)
    (hd : (x == ("__debug__" : Str)) = false := by decide) (hs : starEach (e :: es) X.env = (false, eval e X.env) :: starEach es X.env := by rfl) (hp : (backTo pos (starEach es X.env)).any (·.1) = false := by rfl) :
    PD X b (.Call (.Name x p) (e :: es) [] pos) (wCall ks sp t) := by
  obtain ⟨f, fd, ps, F, hm, kept, bind⟩ := F.ex
  exact pe_weak (pe_callG F room grd hg hm kept bind pass0 args hd hs hp) fun _ _ _ q => call_go hk q
theorem d_callR (hk : b.kp.map (·.1) = ks) (F : Known X k x sp) (room : Room k X.A) (grd : X.A.guards = some []) (hg : Gl X x) (args : PAD X b (e :: es) t)
    (hd : (x == ("__debug__" : Str)) = false := by decide) (hs : starEach (e :: es) X.env = (false, eval e X.env) :: starEach es X.env := by rfl) (hp : (backTo pos (starEach es X.env)).any (·.1) = false := by rfl) :
    PD X b (.Call (.Name x p) (e :: es) [] pos) (wCallR ks sp t) := by
  obtain ⟨f, fd, ps, F, hm, kept, bind⟩ := F.ex
  exact pe_weak (pe_callG F room grd hg hm kept bind pass0 args hd hs hp) fun _ _ _ q => callR_go hk q
end

/-! ### built-in functions and types by values -/
def FnB (K : PySem.W.Frag) (r : List V → Hp → VK → Prop) (g : List D → Option Z) : Prop := ∀ (H G : Hp) (xs : List V) (ds : List D) (z : Z) (Q : VK), Ex G H → Paired (Rc K H G) xs ds → g ds = some z → (∀ v H', Out K H G v H' z → Q v H') → r xs H Q
def conL (ρ : Rho) : List R → Option (List D)
  | [] => some []
  | r :: rs => (con ρ r).bind fun d => (conL ρ rs).map fun ds => d :: ds
def wB (g : List D → Option Z) (t : TAD) : TD := fun ρ Q => t ρ fun rs ρ1 => lk (conL ρ1 rs) fun ds => lk (g ds) fun z => Q z.r ρ1
theorem RvA.rc {K : PySem.W.Frag} {b : Bas} {σ : L2.St} {J H G : Hp} {ρ : Rho} (w : Rel K b σ H G ρ) : ∀ {vs : List V} {rs : List R} {ds : List D}, RvA K b σ J H G ρ vs rs → conL ρ rs = some ds → Paired (Rc K H G) vs ds
  | _, _, ds, .nil, e => by cases e; exact .nil
  | _, _, ds, .cons (r := r) (rs := rs) h1 h2 h3, e => by
    unfold conL at e
    cases e1 : con ρ r with
    | none => rw [e1] at e; cases e
    | some d =>
      rw [e1] at e
      have e' : Option.map (fun ds => d :: ds) (conL ρ rs) = some ds := e
      cases e2 : conL ρ rs with
      | none => rw [e2] at e'; cases e'
      | some ds2 =>
        rw [e2] at e'
        cases e'
        exact .cons (h1.rc w e1) (RvA.rc w h3 e2)
theorem wB_go {K : PySem.W.Frag} {b : Bas} {r : List V → Hp → VK → Prop} {g : List D → Option Z} (hr : FnB K r g) {t : TAD} {σ : L2.St} {H : Hp} {Q : VK} (q : lift K b (wB g t) σ H Q) : tCB r (liftA K b t) σ H Q := by
  obtain ⟨G, ρ, QD, w, q, k⟩ := q
  refine ⟨G, ρ, _, w, q, fun vs H1 G1 rs ρ1 w1 m1 q1 z => ?_⟩
  obtain ⟨ds, e1, z⟩ := lk_get z
  obtain ⟨y, e2, z⟩ := lk_get z
  refine hr H1 G1 vs ds y Q w1.sub (q1.rc w1 e1) e2 fun v H' o => ?_
  obtain ⟨G', w', m', q'⟩ := o.go w1
  exact k v H' G' _ ρ1 w' (m1.trans m') (q'.back m1.dm) z
section
variable {X : Cx} {b : Bas} {x : Str} {p pos : Pos} {e : Expr} {es : List Expr} {t : TAD} {id T : String} {r : List V → Hp → VK → Prop} {g : List D → Option Z}
theorem d_b (hc : CallR X (.builtin id) r) (hr : FnB X.K r g) (hg : Gl X x) (hm : X.mg x = none) (hv : bootBuiltins x = some (.builtin id)) (ha : PAD X b (e :: es) t) (hn : x ≠ "__name__" := by decide) (hdb : (x == ("__debug__" : Str)) = false := by decide)
    (hs : starEach (e :: es) X.env = (false, eval e X.env) :: starEach es X.env := by rfl) (hp : (backTo pos (starEach es X.env)).any (·.1) = false := by rfl) : PD X b (.Call (.Name x p) (e :: es) [] pos) (wB g t) :=
  pe_weak (pe_callB hc hg hm hv ha hn hdb hs hp) fun _ _ _ q => wB_go hr q
theorem d_ty (hc : CallR X (.type T) r) (hr : FnB X.K r g) (hg : Gl X x) (hm : X.mg x = none) (hv : bootBuiltins x = some (.type T)) (ha : PAD X b (e :: es) t) (hn : x ≠ "__name__" := by decide) (hdb : (x == ("__debug__" : Str)) = false := by decide)
    (hs : starEach (e :: es) X.env = (false, eval e X.env) :: starEach es X.env := by rfl) (hp : (backTo pos (starEach es X.env)).any (·.1) = false := by rfl) : PD X b (.Call (.Name x p) (e :: es) [] pos) (wB g t) :=
  pe_weak (pe_callTy hc hg hm hv ha hn hdb hs hp) fun _ _ _ q => wB_go hr q
end
end DL

set_option Elab.async false
set_option maxRecDepth 100000
set_option maxHeartbeats 4000000
/-! DL6: methods that change a slot's list, stores, fields, what is walked, list comprehensions. -/
namespace DL
open PySem PySem.Spec PyProof.Rows L2

/-! ### a method of a slot's list -/
def wMut (ks : List Nat) (i : Nat) (g : List D → List D → Option (List D × D)) (t : TAD) : TD := fun ρ Q => match ρ[i]? with
  | some (.own (.lst _)) => t ρ fun rs ρ1 => lk (frzs ks rs ρ1) fun p => match p.2[i]? with
    | some (.own (.lst l)) => lk (g l p.1) fun q => Q (.dat q.2) (p.2.set i (.own (.lst q.1)))
    | _ => False
  | _ => False
def MutL (K : PySem.W.Frag) (r : V → List V → Hp → VK → Prop) (g : List D → List D → Option (List D × D)) : Prop := ∀ (H G : Hp) (a : Addr) (xs ys : List V) (ls ds l' : List D) (z : D) (Q : VK), Ex G H → H a = some (.lst xs) → G a = none → RpA K G xs ls → RpA K G ys ds → g ls ds = some (l', z) →
  (∀ v xs', RpA K G xs' l' → Rp K G v z → Q v (upd H a (.lst xs'))) → r (.ref a) ys H Q
theorem mut_kep {H G : Hp} {a : Addr} {h h' : HO} (ha : H a = some h) : (∀ (c : Addr) (u : HO), H c = some u → c ≠ a → upd H a h' c = some u ∧ (G c = none → G c = none)) ∧ ∀ c, upd H a h' c = none → H c = none :=
  ⟨fun c u e n => ⟨by rw [upd_ne n]; exact e, fun z => z⟩, fun c e => by
    by_cases n : c = a
    · subst n; rw [upd_same] at e; cases e
    · rw [upd_ne n] at e; exact e⟩
theorem mut_go {K : PySem.W.Frag} {b : Bas} {ks : List Nat} {i : Nat} {g : List D → List D → Option (List D × D)} {r : V → List V → Hp → VK → Prop} (hr : MutL K r g) (hk : b.kp.map (·.1) = ks) {t : TAD} {σ : L2.St} {H : Hp} {Q : VK} (q : lift K b (wMut ks i g t) σ H Q) :
    tBM K "list" r (tVar i) (liftA K b t) σ H Q := by
  obtain ⟨G, ρ, QD, w, q, k⟩ := q
  unfold wMut at q
  split at q
  · rename_i l0 hr0
    obtain ⟨a, h, z1, z2, z3, z4, z5⟩ := w.own i _ hr0
    have : ∃ xs, h = .lst xs := by cases z5; exact ⟨_, rfl⟩
    obtain ⟨xs0, rfl⟩ := this
    refine ⟨.ref a, z1, .inl ⟨rfl, xs0, SqL.of z2⟩, G, ρ, _, w, q, fun vs H1 G1 rs ρ1 w1 m1 q1 z => ?_⟩
    obtain ⟨p, e1, z⟩ := lk_get z
    obtain ⟨ds, ρ2⟩ := p
    obtain ⟨G2, w2, m2, r2, x2⟩ := Rel.frzs hk w1 m1 q1 e1
    dsimp only at z
    split at z
    · rename_i l hl
      obtain ⟨q', e2, z⟩ := lk_get z
      obtain ⟨l', d⟩ := q'
      obtain ⟨a', h, y1, y2, y3, y4, y5⟩ := w2.own i _ hl
      rw [z1] at y1
      cases y1
      cases y5 with
      | lst y5 =>
        refine hr H1 G2 a _ vs l ds l' d Q w2.sub y2 y3 y5 r2 e2 fun v xs' ra rd => ?_
        obtain ⟨kp, dm⟩ := mut_kep (G := G2) (h' := .lst xs') y2
        have m3 : Fm σ ρ2 H1 G2 (ρ2.set i (.own (.lst l'))) (upd H1 a (.lst xs')) G2 := Fm.chg hl z1 (Ex.refl G2) kp dm
        exact k v _ G2 (.dat d) _ (w2.chg hl z1 (w2.sub.over y3) (Ex.refl G2) kp upd_same y3 (.lst ra)) (m2.trans m3) rd z
    · exact z.elim
  · exact q.elim
section
variable {X : Cx} {b : Bas} {ks : List Nat} {i : Nat} {o e : Expr} {es : List Expr} {t : TAD} {name : Str} {apos cpos : Pos} {id : String} {r : V → List V → Hp → VK → Prop} {g : List D → List D → Option (List D × D)}
theorem d_mut (hk : b.kp.map (·.1) = ks) (hg : MutL X.K r g) (hm : MtR X id r) (pa : PlainAttrs "list") (slot : Slot "list" name id) (hty : typeOf (.builtin id) = pure (.type "method_descriptor")) (ho : PE X o (tVar i)) (ha : PAD X b (e :: es) t)
    (hbase : attributeBase o name X.env (eval o X.env) = eval o X.env := by rfl)
    (hf : ((backTo cpos (starEach (e :: es) X.env)).all (fun x => !x.1) && (backToKw cpos (keywordEach [] X.env)).all (fun x => x.1.isSome) && decide ((e :: es).length + ([] : List Keyword).length + (if ([] : List Keyword).isEmpty then 0 else 1) < 30)) = true := by rfl)
    (hline : (apos.endLine == cpos.line) = true := by rfl) (he : starEach (e :: es) X.env = (false, eval e X.env) :: starEach es X.env := by rfl) (hpl : (backTo cpos (starEach es X.env)).any (·.1) = false := by rfl) :
    PD X b (.Call (.Attribute o name apos) (e :: es) [] cpos) (wMut ks i g t) := pe_weak (pe_bm pa slot hty hm ho ha hbase hf hline he hpl) fun _ _ _ q => mut_go hg hk q
theorem d_mut0 (hk : b.kp.map (·.1) = ks) (hg : MutL X.K r g) (hm : MtR X id r) (pa : PlainAttrs "list") (slot : Slot "list" name id) (hty : typeOf (.builtin id) = pure (.type "method_descriptor")) (ho : PE X o (tVar i))
    (hbase : attributeBase o name X.env (eval o X.env) = eval o X.env := by rfl) (hline : (apos.endLine == cpos.line) = true := by rfl) :
    PD X b (.Call (.Attribute o name apos) [] [] cpos) (wMut ks i g wNil) := pe_weak (pe_bm0 pa slot hty hm ho hbase hline) fun σ H Q q => by
  have q' := mut_go hg hk q
  obtain ⟨v, h1, h2, h3⟩ := q'
  obtain ⟨G, ρ, QD, w, q2, k⟩ := h3
  exact ⟨v, h1, h2, k [] H G [] ρ w (Fm.refl σ ρ H G) .nil q2⟩
end

/-! ### x[k] = e at a slot's list; n op= e -/
def wPut (ks : List Nat) (i : Nat) (ti ta : TD) : SD := fun DD ρ => ta ρ fun r ρ1 => lk (frz ks r ρ1) fun p => (∃ l0, p.2[i]? = some (.own (.lst l0))) ∧ ti p.2 fun rk ρ2 => lk (con ρ2 rk) fun dk => match dk, ρ2[i]? with
  | .int k, some (.own (.lst l)) => lk (ixN l.length k) fun j => DD.nx (ρ2.set i (.own (.lst (l.set j p.1))))
  | _, _ => False
theorem RpA.set {K : PySem.W.Frag} {G : Hp} {v : V} {d : D} (r : Rp K G v d) : ∀ {xs : List V} {ds : List D} (j : Nat), RpA K G xs ds → RpA K G (xs.set j v) (ds.set j d)
  | _, _, _, .nil => .nil
  | _, _, 0, .cons _ t => .cons r t
  | _, _, j + 1, .cons q t => .cons q (RpA.set r j t)
theorem Rc.int {K : PySem.W.Frag} {H G : Hp} {v : V} {k : Int} (r : Rc K H G v (.int k)) : v = .int k := by
  rcases r with r | ⟨a, h, o, rfl, h1, r, z⟩
  · cases r; rfl
  · cases o <;> cases z
theorem Rc.str {K : PySem.W.Frag} {H G : Hp} {v : V} {k : Str} (r : Rc K H G v (.str k)) : v = .str k := by
  rcases r with r | ⟨a, h, o, rfl, h1, r, z⟩
  · cases r; rfl
  · cases o <;> cases z
theorem Rc.bl {K : PySem.W.Frag} {H G : Hp} {v : V} {k : Bool} (r : Rc K H G v (.bl k)) : v = .bl k := by
  rcases r with r | ⟨a, h, o, rfl, h1, r, z⟩
  · cases r; rfl
  · cases o <;> cases z
theorem Rc.non {K : PySem.W.Frag} {H G : Hp} {v : V} (r : Rc K H G v .non) : v = .non := by
  rcases r with r | ⟨a, h, o, rfl, h1, r, z⟩
  · cases r; rfl
  · cases o <;> cases z
theorem Rc.lst {K : PySem.W.Frag} {H G : Hp} {v : V} {ds : List D} (e : Ex G H) (r : Rc K H G v (.lst ds)) : ∃ a xs, v = .ref a ∧ H a = some (.lst xs) ∧ RpA K G xs ds := by
  rcases r with r | ⟨a, h, o, rfl, h1, r, z⟩
  · cases r with | lst h1 h2 => exact ⟨_, _, rfl, e _ _ h1, h2⟩
  · cases r with
    | lst r => cases z; exact ⟨a, _, rfl, h1, r⟩
    | dct r => cases z
    | ins r => cases z
theorem Rc.fzl {K : PySem.W.Frag} {H G : Hp} {v : V} {ds : List D} (e : Ex G H) (r : Rc K H G v (.fzl ds)) : ∃ a xs, v = .ref a ∧ SqL K H a xs ∧ RpA K G xs ds := by
  rcases r with r | ⟨a, h, o, rfl, h1, r, z⟩
  · cases r with | fzl h1 h2 => exact ⟨_, _, rfl, e.sql h1, h2⟩
  · cases o <;> cases z
theorem Rc.tup {K : PySem.W.Frag} {H G : Hp} {v : V} {ds : List D} (e : Ex G H) (r : Rc K H G v (.tup ds)) : ∃ a xs, v = .ref a ∧ SqP K H a xs ∧ RpA K G xs ds ∧ Rp K G v (.tup ds) := by
  rcases r with r | ⟨a, h, o, rfl, h1, r, z⟩
  · have r0 := r
    cases r with | tup h1 h2 => exact ⟨_, _, rfl, e.sqp h1, h2, r0⟩
  · cases o <;> cases z
section
variable {X : Cx} {b : Bas} {ks : List Nat} {i : Nat} {o ek e : Expr} {ti ta : TD} {spos pos : Pos}
theorem s_put (hk : b.kp.map (·.1) = ks) (ho : PE X o (tVar i)) (hi : PD X b ek ti) (he : PD X b e ta) (ha : ∀ v, assign (.Subscript o ek spos) X.env v = (do let ov ← holding [v] (eval o X.env); let iv ← holding [v, ov] (eval ek X.env); standAt spos; holding [v, ov, iv] (setItem ov iv v); release [v, ov, iv] []) := by intro _; rfl)
    (hs : swapsWithSole [.Subscript o ek spos] e pos.line X.env = pure false := by rfl) (hw : swappedStores [.Subscript o ek spos] e X.env = pure none := by rfl) (h1 : (assignEach [.Subscript o ek spos] X.env).map (·.2) = [assign (.Subscript o ek spos) X.env] := by rfl) :
    PSD X b (.Assign [.Subscript o ek spos] e pos) (wPut ks i ti ta) := ps_weak (ps_asg he (pg_sub ho hi set_list ha) hs hw h1) fun D σ H q => by
  obtain ⟨G, ρ, DD, w, q, n, _⟩ := q
  refine ⟨G, ρ, _, w, q, fun v H1 G1 r ρ1 w1 m1 q1 z => ?_⟩
  obtain ⟨p, e1, z⟩ := lk_get z
  obtain ⟨d, ρ2⟩ := p
  obtain ⟨G2, w2, m2, x2, r2, _⟩ := w1.frz hk m1 q1 e1
  obtain ⟨⟨l0, hl0⟩, z⟩ := z
  obtain ⟨a, h0, hx, _⟩ := w2.own i _ hl0
  refine ⟨.ref a, hx, G2, ρ2, _, w2, z, fun u H3 G3 r3 ρ3 w3 m3 q3 z => ?_⟩
  obtain ⟨dk, e3, z⟩ := lk_get z
  split at z
  · rename_i k l hl
    obtain ⟨j, e4, z⟩ := lk_get z
    obtain ⟨a', h, y1, y2, y3, y4, y5⟩ := w3.own i _ hl
    rw [hx] at y1
    cases y1
    cases y5 with
    | lst y5 =>
      rename_i xs
      obtain rfl := (q3.rc w3 e3).int
      obtain ⟨kp, dm⟩ := mut_kep (G := G3) (h' := .lst (xs.set j v)) y2
      exact ⟨a, xs, k, j, rfl, rfl, y2, by rw [y5.len]; exact e4, n σ _ G3 _ (w3.chg hl hx (w3.sub.over y3) (Ex.refl G3) kp upd_same y3 (.lst (RpA.set (r2.up m3.ex) j y5))) (m2.ex.trans m3.ex) z⟩
  · exact z.elim
/-- n op= e, n a number's or text's name -/
def wAug (ks : List Nat) (i : Nat) (g : D → D → Option Z) (ta : TD) : SD := fun DD ρ => match ρ[i]? with
  | some (.dat d0) => ta ρ fun r ρ1 => lk (con ρ1 r) fun d => lk (g d0 d) fun z => if i ∈ ks then False else DD.nx (ρ1.set i z.r.sl)
  | _ => False
theorem s_aug {x : Str} {op : Operator} {r : R2} {g : D → D → Option Z} {pos' : Pos} (hk : b.kp.map (·.1) = ks) (hg : Op2 X.K r g) (hN : X.N.Nodup) (hi : X.N[i]? = some x) (hx : Loc X.env.scope x) (he : PD X b e ta) (ho : PIp X op r) (hf : X.fn x = true ∨ X.env.scope.names.lookup x = some .local := by first | exact .inl rfl | exact .inr rfl | assumption) :
    PSD X b (.AugAssign (.Name x pos') op e pos) (wAug ks i g ta) := ps_weak (ps_aug hN hi hx he ho hf) fun D σ H q => by
  obtain ⟨G, ρ, DD, w, q, n, _⟩ := q
  unfold wAug at q
  split at q
  · rename_i d0 h0
    obtain ⟨v0, y1, y2⟩ := w.dat i d0 h0
    refine ⟨v0, y1, G, ρ, _, w, q, fun v H1 G1 r ρ1 w1 m1 q1 z => ?_⟩
    obtain ⟨d, e1, z⟩ := lk_get z
    obtain ⟨zz, e2, z⟩ := lk_get z
    split at z
    · exact z.elim
    · rename_i hi
      refine hg H1 G1 v0 v d0 d zz _ w1.sub (.inl (y2.up m1.ex)) (q1.rc w1 e1) e2 fun v' H' o => ?_
      obtain ⟨G', w', m', q'⟩ := o.go w1
      exact n _ H' G' _ (w'.set q' (by cases zz <;> intro i z <;> cases z) fun p hp e => hi (by rw [← hk, ← e]; exact List.mem_map_of_mem hp)) (m1.ex.trans m'.ex) z
  · exact q.elim
end

/-! ### fields -/
def insD (C : Addr) : D → Option (List (Str × D))
  | .ins C' l => if C' = C then some l else none
  | _ => none
def wFld (C : Addr) (f : Str) (ta : TD) : TD := fun ρ Q => ta ρ fun r ρ1 => lk ((con ρ1 r).bind (insD C)) fun l => lk (l.lookup f) fun d => Q (.dat d) ρ1
theorem RpF.look {K : PySem.W.Frag} {G : Hp} {f : Str} : ∀ {fs : List (Str × V)} {ds : List (Str × D)}, RpF K G fs ds → ∀ {d : D}, ds.lookup f = some d → ∃ v, fs.lookup f = some v ∧ Rp K G v d
  | _, _, .nil, d, h => by cases h
  | _, _, .cons (k := k) h r, d, e => by
    unfold List.lookup at e ⊢
    split at e
    · cases e
      exact ⟨_, rfl, h⟩
    · exact r.look e
theorem RpF.len {K : PySem.W.Frag} {G : Hp} : ∀ {fs : List (Str × V)} {ds : List (Str × D)}, RpF K G fs ds → fs.length = ds.length
  | _, _, .nil => rfl
  | _, _, .cons _ r => congrArg (· + 1) r.len
def putD (f : Str) (d : D) : List (Str × D) → List (Str × D)
  | [] => [(f, d)]
  | (g, x) :: r => if g = f then (g, d) :: r else (g, x) :: putD f d r
theorem RpF.put {K : PySem.W.Frag} {G : Hp} {f : Str} {v : V} {d : D} (q : Rp K G v d) : ∀ {fs : List (Str × V)} {ds : List (Str × D)}, RpF K G fs ds → RpF K G (putF f v fs) (putD f d ds)
  | _, _, .nil => .cons q .nil
  | _, _, .cons (k := k) h r => by
    unfold putF putD
    by_cases e : k = f
    · rw [if_pos e, if_pos e]; exact .cons q r
    · rw [if_neg e, if_neg e]; exact .cons h (r.put q)
theorem Rc.ins {K : PySem.W.Frag} {H G : Hp} {v : V} {C : Addr} {l : List (Str × D)} (e : Ex G H) (r : Rc K H G v (.ins C l)) : ∃ a dx fs, v = .ref a ∧ H a = some (.ins C dx fs) ∧ RpF K G fs l := by
  rcases r with r | ⟨a, h, o, rfl, h1, r, z⟩
  · cases r with | ins h1 h2 => exact ⟨_, _, _, rfl, e _ _ h1, h2⟩
  · cases r with
    | lst r => cases z
    | dct r => cases z
    | ins r => cases z; exact ⟨a, _, _, rfl, h1, r⟩
def wSetF (ks : List Nat) (i : Nat) (C : Addr) (f : Str) (ta : TD) : SD := fun DD ρ => ta ρ fun r ρ1 => lk (frz ks r ρ1) fun p => match p.2[i]? with
  | some (.own (.ins C' l)) => C' = C ∧ l.length < 1000 ∧ DD.nx (p.2.set i (.own (.ins C (putD f p.1 l))))
  | _ => False
section
variable {X : Cx} {b : Bas} {ks : List Nat} {i : Nat} {C : Addr} {f : Str} {o e : Expr} {ta : TD} {pos pos' : Pos}
theorem d_fld (hc : Cls X.K C) (hn : NoAttr X.K C f) (he : PD X b e ta) (hb : attributeBase e f X.env (eval e X.env) = eval e X.env := by rfl) : PD X b (.Attribute e f pos) (wFld C f ta) := pe_weak (pe_fld he hb) fun σ H Q q => by
  obtain ⟨G, ρ, QD, w, q, k⟩ := q
  refine ⟨G, ρ, _, w, q, fun v H1 G1 r ρ1 w1 m1 q1 z => ?_⟩
  obtain ⟨l, e1, zz⟩ := lk_get z
  obtain ⟨d, e2, zz⟩ := lk_get zz
  cases e3 : con ρ1 r with
  | none => rw [e3] at e1; cases e1
  | some x =>
    rw [e3] at e1
    have e1' : insD C x = some l := e1
    cases x <;> try cases e1'
    rename_i C' l'
    unfold insD at e1'
    dsimp only at e1'
    split at e1'
    · rename_i hC
      subst hC
      cases e1'
      obtain ⟨a, dx, fs, rfl, h1, h2⟩ := (q1.rc w1 e3).ins w1.sub
      obtain ⟨u, h3, h4⟩ := h2.look e2
      exact ⟨a, _, dx, fs, u, rfl, h1, hc, hn, h3, k u H1 G1 (.dat d) ρ1 w1 m1 h4 zz⟩
    · cases e1'
theorem s_fld (hk : b.kp.map (·.1) = ks) (hc : Cls X.K C) (hn : NoAttr X.K C f) (ho : PE X o (tVar i)) (he : PD X b e ta) (hs : swapsWith e (some (.Attribute o f pos')) pos.line X.env = pure false := by rfl) : PSD X b (.Assign [.Attribute o f pos'] e pos) (wSetF ks i C f ta) :=
  ps_weak (ps_fld ho he hs) fun D σ H q => by
    obtain ⟨G, ρ, DD, w, q, n, _⟩ := q
    refine ⟨G, ρ, _, w, q, fun v H1 G1 r ρ1 w1 m1 q1 z => ?_⟩
    obtain ⟨p, e1, z⟩ := lk_get z
    obtain ⟨d, ρ2⟩ := p
    obtain ⟨G2, w2, m2, x2, r2, _⟩ := w1.frz hk m1 q1 e1
    dsimp only at z
    split at z
    · rename_i C' l hl
      obtain ⟨rfl, hz, z⟩ := z
      obtain ⟨a, h, y1, y2, y3, y4, y5⟩ := w2.own i _ hl
      cases y5 with
      | ins y5 =>
        rename_i dx fs
        obtain ⟨kp, dm⟩ := mut_kep (G := G2) (h' := .ins C' dx (putF f v fs)) y2
        exact ⟨.ref a, y1, a, C', dx, fs, rfl, y2, hc, hn, by rw [y5.len]; exact hz, n σ _ G2 _ (w2.chg hl y1 (w2.sub.over y3) (Ex.refl G2) kp upd_same y3 (.ins (y5.put r2))) m2.ex z⟩
    · exact z.elim
end

/-! ### what is walked -/
def listD : D → Option (List D)
  | .lst l => some l
  | .fzl l => some l
  | _ => none
theorem listD_ok {K : PySem.W.Frag} {G : Hp} {v : V} {d : D} {l : List D} (r : Rp K G v d) (e : listD d = some l) : ∃ a xs, v = .ref a ∧ SqL K G a xs ∧ RpA K G xs l := by
  cases r with
  | lst h1 h2 => cases e; exact ⟨_, _, rfl, SqL.of h1, h2⟩
  | fzl h1 h2 => cases e; exact ⟨_, _, rfl, h1, h2⟩
  | _ => cases e
def wItL (ks : List Nat) (ta : TD) : TID := fun ρ Q => ta ρ fun r ρ1 => lk (frz ks r ρ1) fun p => lk (listD p.1) fun l => Q l p.2
def wItT (ks : List Nat) (ta : TD) : TID := fun ρ Q => ta ρ fun r ρ1 => lk (frz ks r ρ1) fun p => match p.1 with
  | .tup l => Q l p.2
  | _ => False
def wItR1 (t : TAD) : TID := fun ρ Q => t ρ fun rs ρ1 => lk (conL ρ1 rs) fun ds => match ds with
  | [.int j] => -(2 ^ 62) ≤ j ∧ j < 2 ^ 62 ∧ Q ((List.range j.toNat).map fun n => .int (n : Nat)) ρ1
  | _ => False
def wItR2 (t : TAD) : TID := fun ρ Q => t ρ fun rs ρ1 => lk (conL ρ1 rs) fun ds => match ds with
  | [.int i, .int j] => (-(2 ^ 62) ≤ i ∧ i < 2 ^ 62 ∧ -(2 ^ 62) ≤ j ∧ j < 2 ^ 62) ∧ Q ((List.range (j - i).toNat).map fun n => .int (i + (n : Nat))) ρ1
  | _ => False
def enumD : Nat → List D → List D
  | _, [] => []
  | n, d :: ds => .wt [.int (n : Nat), d] :: enumD (n + 1) ds
def wItE (ks : List Nat) (t : TAD) : TID := fun ρ Q => t ρ fun rs ρ1 => lk (frzs ks rs ρ1) fun p => match p.1 with
  | [x] => lk (listD x) fun l => Q (enumD 0 l) p.2
  | _ => False
theorem enumD_at : ∀ {l : List D} {n i : Nat} {d : D}, (enumD n l)[i]? = some d → ∃ x, l[i]? = some x ∧ d = .wt [.int ((n + i : Nat) : Int), x]
  | [], n, i, d, h => by unfold enumD at h; simp at h
  | x :: l, n, 0, d, h => by unfold enumD at h; cases h; exact ⟨x, rfl, rfl⟩
  | x :: l, n, i + 1, d, h => by
    unfold enumD at h
    obtain ⟨y, h1, h2⟩ := enumD_at (l := l) (n := n + 1) (i := i) (by simpa using h)
    exact ⟨y, by simpa using h1, by rw [h2]; congr 3; omega⟩
theorem enumD_len : ∀ (l : List D) (n : Nat), (enumD n l).length = l.length
  | [], _ => rfl
  | _ :: l, n => congrArg (· + 1) (enumD_len l (n + 1))
theorem RpA.at {K : PySem.W.Frag} {G : Hp} : ∀ {xs : List V} {ds : List D}, RpA K G xs ds → ∀ {i : Nat} {d : D}, ds[i]? = some d → ∃ v, xs[i]? = some v ∧ Rp K G v d
  | _, _, .nil, i, d, h => by simp at h
  | _, _, .cons h _, 0, d, e => by cases e; exact ⟨_, rfl, h⟩
  | _, _, .cons _ r, i + 1, d, e => by
    obtain ⟨v, h1, h2⟩ := RpA.at r (i := i) (d := d) (by simpa using e)
    exact ⟨v, by simpa using h1, h2⟩
section
variable {K : PySem.W.Frag} {G : Hp} {a : Addr} {xs : List V} {ds : List D}
theorem itD_list (h : SqL K G a xs) (r : RpA K G xs ds) : ItD K (Itl K a) ds G := fun i H G1 x1 x2 => by
  have hH := x2.sql (x1.sql h)
  refine ⟨fun d e => ?_, fun hl => ⟨xs, hH, by rw [r.len]; exact hl⟩⟩
  obtain ⟨v, h1, h2⟩ := r.at e
  refine ⟨⟨xs, v, hH, h1⟩, fun x H' y => ?_⟩
  obtain ⟨rfl, y⟩ := y
  have := y xs hH
  rw [h1] at this
  cases this
  exact ⟨.d d, rfl, rfl, h2.up x1⟩
theorem itD_tup (h : SqT K G a xs) (r : RpA K G xs ds) : ItD K (Itt K a) ds G := fun i H G1 x1 x2 => by
  have hH := x2.sqt (x1.sqt h)
  refine ⟨fun d e => ?_, fun hl => ⟨xs, hH, by rw [r.len]; exact hl⟩⟩
  obtain ⟨v, h1, h2⟩ := r.at e
  refine ⟨⟨xs, v, hH, h1⟩, fun x H' y => ?_⟩
  obtain ⟨rfl, y⟩ := y
  have := y xs hH
  rw [h1] at this
  cases this
  exact ⟨.d d, rfl, rfl, h2.up x1⟩
theorem itD_enum (h : SqL K G a xs) (r : RpA K G xs ds) : ItD K (Ite K a) (enumD 0 ds) G := fun i H G1 x1 x2 => by
  have hH := x2.sql (x1.sql h)
  refine ⟨fun d e => ?_, fun hl => ⟨xs, hH, by rw [r.len, ← enumD_len ds 0]; exact hl⟩⟩
  obtain ⟨y, e1, rfl⟩ := enumD_at e
  obtain ⟨v, h1, h2⟩ := r.at e1
  refine ⟨⟨xs, v, hH, h1⟩, fun x H' q => ?_⟩
  obtain ⟨T, x', rfl, hT, rfl, q⟩ := q
  have := q xs hH
  rw [h1] at this
  cases this
  refine ⟨.w [.int ((0 + i : Nat) : Int), y], rfl, T, _, rfl, hT, rfl, ?_⟩
  rw [Nat.zero_add]
  exact .cons (.int _) (.cons (h2.up x1) .nil)
theorem itD_range (lo : Int) (n : Nat) : ItD K (Itr lo n) ((List.range n).map fun k => .int (lo + (k : Nat))) G := fun i H G1 x1 x2 => by
  refine ⟨fun d e => ?_, fun hl => by rw [List.length_map, List.length_range] at hl; exact hl⟩
  rw [List.getElem?_map] at e
  have hi : i < n := by
    cases q : (List.range n)[i]? with
    | none => rw [q] at e; cases e
    | some k => have := (List.getElem?_eq_some_iff.mp q).1; rw [List.length_range] at this; exact this
  rw [List.getElem?_range hi] at e
  cases e
  exact ⟨hi, fun x H' y => by obtain ⟨rfl, rfl⟩ := y; exact ⟨.d (.int (lo + (i : Nat))), rfl, rfl, .int _⟩⟩
end
section
variable {X : Cx} {b : Bas} {ks : List Nat} {e e2 tg : Expr} {ta : TD} {t : TAD} {p pos : Pos}
theorem i_weak {wi wi' : TI} (h : PI X tg e wi) (w : ∀ σ H R, wi' σ H R → wi σ H R) : PI X tg e wi' := ⟨fun pins s σ H R I q => h.run pins s σ H R I (w σ H R q)⟩
theorem i_list (hk : b.kp.map (·.1) = ks) (he : PD X b e ta) : PI X tg e (liftI X.K b (wItL ks ta)) := i_weak (pi_list he) fun σ H Rr q => by
  obtain ⟨G, ρ, QD, w, q, k⟩ := q
  refine ⟨G, ρ, _, w, q, fun v H1 G1 r ρ1 w1 m1 q1 z => ?_⟩
  obtain ⟨p, e1, z⟩ := lk_get z
  obtain ⟨d, ρ2⟩ := p
  obtain ⟨G2, w2, m2, x2, r2, _⟩ := w1.frz hk m1 q1 e1
  obtain ⟨l, e2, z⟩ := lk_get z
  obtain ⟨a, xs, rfl, h1, h2⟩ := listD_ok r2 e2
  exact ⟨_, rfl, ⟨_, w2.sub.sql h1⟩, k _ H1 G2 _ ρ2 w2 m2 (itD_list h1 h2) z⟩
theorem i_tup (hk : b.kp.map (·.1) = ks) (he : PD X b e ta) : PI X tg e (liftI X.K b (wItT ks ta)) := i_weak (pi_tup he) fun σ H Rr q => by
  obtain ⟨G, ρ, QD, w, q, k⟩ := q
  refine ⟨G, ρ, _, w, q, fun v H1 G1 r ρ1 w1 m1 q1 z => ?_⟩
  obtain ⟨p, e1, z⟩ := lk_get z
  obtain ⟨d, ρ2⟩ := p
  obtain ⟨G2, w2, m2, x2, r2, _⟩ := w1.frz hk m1 q1 e1
  cases d <;> try exact z.elim
  cases r2 with
  | tup h1 h2 => exact ⟨_, rfl, ⟨_, w2.sub.sqt h1.1⟩, k _ H1 G2 _ ρ2 w2 m2 (itD_tup h1.1 h2) z⟩
theorem pair_int {xs : List V} {H G : Hp} {K : PySem.W.Frag} {j : Int} (h : Paired (Rc K H G) xs [.int j]) : xs = [.int j] := by
  cases h with | cons h1 h2 => cases h2; rw [h1.int]
theorem pair_int2 {xs : List V} {H G : Hp} {K : PySem.W.Frag} {i j : Int} (h : Paired (Rc K H G) xs [.int i, .int j]) : xs = [.int i, .int j] := by
  cases h with | cons h1 h2 => cases h2 with | cons h2 h3 => cases h3; rw [h1.int, h2.int]
theorem i_range1 (hg : Gl X "range") (hm : X.mg "range" = none) (ha : PAD X b [e] t) (hs : starEach [e] X.env = [(false, eval e X.env)] := by rfl) : PI X tg (.Call (.Name "range" p) [e] [] pos) (liftI X.K b (wItR1 t)) := i_weak (pi_range1 hg hm ha hs) fun σ H Rr q => by
  obtain ⟨G, ρ, QD, w, q, k⟩ := q
  refine ⟨G, ρ, _, w, q, fun vs H1 G1 rs ρ1 w1 m1 q1 z => ?_⟩
  obtain ⟨ds, e1, z⟩ := lk_get z
  have pr := q1.rc w1 e1
  split at z
  · rename_i j
    obtain rfl := pair_int pr
    have it := itD_range (K := X.K) (G := G1) 0 j.toNat
    have e0 : ((List.range j.toNat).map fun k => D.int (0 + (k : Nat))) = (List.range j.toNat).map fun n => D.int (n : Nat) := List.map_congr_left fun n _ => by rw [Int.zero_add]
    rw [e0] at it
    exact ⟨j, rfl, z.1, z.2.1, k _ H1 G1 _ ρ1 w1 m1 it z.2.2⟩
  · exact z.elim
theorem i_range2 (hg : Gl X "range") (hm : X.mg "range" = none) (ha : PAD X b [e, e2] t) (hs : starEach [e, e2] X.env = [(false, eval e X.env), (false, eval e2 X.env)] := by rfl) (hs2 : starEach [e2] X.env = [(false, eval e2 X.env)] := by rfl) :
    PI X tg (.Call (.Name "range" p) [e, e2] [] pos) (liftI X.K b (wItR2 t)) := i_weak (pi_range2 hg hm ha hs hs2) fun σ H Rr q => by
  obtain ⟨G, ρ, QD, w, q, k⟩ := q
  refine ⟨G, ρ, _, w, q, fun vs H1 G1 rs ρ1 w1 m1 q1 z => ?_⟩
  obtain ⟨ds, e1, z⟩ := lk_get z
  have pr := q1.rc w1 e1
  split at z
  · rename_i i j
    obtain rfl := pair_int2 pr
    exact ⟨i, j, rfl, z.1, k _ H1 G1 _ ρ1 w1 m1 (itD_range i (j - i).toNat) z.2⟩
  · exact z.elim
theorem i_enum {tpos : Pos} {elts : List Expr} {kk : Nat} (hk : b.kp.map (·.1) = ks) (hg : Gl X "enumerate") (hm : X.mg "enumerate" = none) (ha : PAD X b [e] t) (hs : starEach [e] X.env = [(false, eval e X.env)] := by rfl) :
    PI X (.Tuple elts kk tpos) (.Call (.Name "enumerate" p) [e] [] pos) (liftI X.K b (wItE ks t)) := i_weak (pi_enum hg hm ha hs) fun σ H Rr q => by
  obtain ⟨G, ρ, QD, w, q, k⟩ := q
  refine ⟨G, ρ, _, w, q, fun vs H1 G1 rs ρ1 w1 m1 q1 z => ?_⟩
  obtain ⟨p, e1, z⟩ := lk_get z
  obtain ⟨ds, ρ2⟩ := p
  obtain ⟨G2, w2, m2, r2, x2⟩ := Rel.frzs hk w1 m1 q1 e1
  dsimp only at z
  split at z
  · rename_i x
    obtain ⟨l, e2, z⟩ := lk_get z
    cases r2 with
    | cons h1 h2 =>
      cases h2
      obtain ⟨a, xs, rfl, h1, h2⟩ := listD_ok h1 e2
      exact ⟨_, _, rfl, w2.sub.sql h1, k _ H1 G2 _ ρ2 w2 m2 (itD_enum h1 h2) z⟩
  · exact z.elim
end
end DL

set_option Elab.async false
set_option maxRecDepth 100000
set_option maxHeartbeats 4000000
/-! DL7: list comprehensions over data. -/
namespace DL
open PySem PySem.Spec PyProof.Rows L2

def wipR (ρ : Rho) : List Nat → Rho
  | [] => ρ
  | v :: vs => (wipR ρ vs).set v .no
def unw : List Nat → Rho → Rho → Rho
  | [], _, ρ2 => ρ2
  | v :: vs, ρ1, ρ2 => (unw vs ρ1 ρ2).set v ((ρ1[v]?).getD .no)
theorem wipe_at (σ : L2.St) : ∀ (vs : List Nat) (j : Nat), (wipe σ vs)[j]? = if j ∈ vs then (σ[j]?).map (fun _ => none) else σ[j]?
  | [], j => by simp [wipe]
  | v :: vs, j => by
    show ((wipe σ vs).set v none)[j]? = _
    by_cases e : j = v
    · subst e
      rw [if_pos List.mem_cons_self]
      by_cases hl : j < σ.length
      · rw [set_eq (by rw [wipe_length]; exact hl), List.getElem?_eq_getElem hl]; rfl
      · rw [List.getElem?_eq_none (by rw [List.length_set, wipe_length]; omega), List.getElem?_eq_none (by omega)]; rfl
    · rw [set_ne e, wipe_at σ vs j]
      by_cases h : j ∈ vs
      · rw [if_pos h, if_pos (List.mem_cons_of_mem _ h)]
      · rw [if_neg h, if_neg (fun z => by rcases List.mem_cons.mp z with z | z; exact e z; exact h z)]
theorem wipR_len (ρ : Rho) : ∀ vs : List Nat, (wipR ρ vs).length = ρ.length
  | [] => rfl
  | v :: vs => by show ((wipR ρ vs).set v .no).length = _; rw [List.length_set]; exact wipR_len ρ vs
theorem wipR_out (ρ : Rho) : ∀ {vs : List Nat} {j : Nat}, j ∉ vs → (wipR ρ vs)[j]? = ρ[j]?
  | [], j, _ => rfl
  | v :: vs, j, h => by
    show ((wipR ρ vs).set v .no)[j]? = _
    rw [set_ne (fun z => h (by rw [z]; exact List.mem_cons_self))]
    exact wipR_out ρ fun z => h (List.mem_cons_of_mem _ z)
theorem wipR_in (ρ : Rho) : ∀ {vs : List Nat} {j : Nat} {s : Sl}, j ∈ vs → (wipR ρ vs)[j]? = some s → s = .no
  | v :: vs, j, s, h, e => by
    have e' : ((wipR ρ vs).set v .no)[j]? = some s := e
    rcases set_at e' with ⟨rfl, z, _⟩ | ⟨hn, z⟩
    · exact z
    · exact wipR_in ρ (by rcases List.mem_cons.mp h with h | h; exact absurd h hn; exact h) z
theorem unw_len (ρ1 ρ2 : Rho) : ∀ vs : List Nat, (unw vs ρ1 ρ2).length = ρ2.length
  | [] => rfl
  | v :: vs => by show ((unw vs ρ1 ρ2).set v _).length = _; rw [List.length_set]; exact unw_len ρ1 ρ2 vs
theorem unw_out (ρ1 ρ2 : Rho) : ∀ {vs : List Nat} {j : Nat}, j ∉ vs → (unw vs ρ1 ρ2)[j]? = ρ2[j]?
  | [], j, _ => rfl
  | v :: vs, j, h => by
    show ((unw vs ρ1 ρ2).set v _)[j]? = _
    rw [set_ne (fun z => h (by rw [z]; exact List.mem_cons_self))]
    exact unw_out ρ1 ρ2 fun z => h (List.mem_cons_of_mem _ z)
theorem unw_in (ρ1 ρ2 : Rho) : ∀ {vs : List Nat} {j : Nat} {s : Sl}, j ∈ vs → (unw vs ρ1 ρ2)[j]? = some s → s = .no ∨ ρ1[j]? = some s
  | v :: vs, j, s, h, e => by
    have e' : ((unw vs ρ1 ρ2).set v ((ρ1[v]?).getD .no))[j]? = some s := e
    rcases set_at e' with ⟨rfl, z, _⟩ | ⟨hn, z⟩
    · cases q : ρ1[j]? with
      | none => rw [q] at z; exact .inl z
      | some t => rw [q] at z; exact .inr (by rw [z]; rfl)
    · exact unw_in ρ1 ρ2 (by rcases List.mem_cons.mp h with h | h; exact absurd h hn; exact h) z
section
variable {K : PySem.W.Frag} {b : Bas} {σ : L2.St} {H G : Hp} {ρ : Rho} {vs : List Nat}
theorem Rel.wipe (w : Rel K b σ H G ρ) (hk : ∀ p ∈ b.kp, p.1 ∉ vs) : Rel K b (L2.wipe σ vs) H G (wipR ρ vs) := by
  have out : ∀ {j : Nat} {s : Sl}, s ≠ .no → (wipR ρ vs)[j]? = some s → j ∉ vs ∧ ρ[j]? = some s := fun {j s} hs e => by
    by_cases h : j ∈ vs
    · exact absurd (wipR_in ρ h e) hs
    · rw [wipR_out ρ h] at e; exact ⟨h, e⟩
  have at_ : ∀ {j : Nat}, j ∉ vs → (L2.wipe σ vs)[j]? = σ[j]? := fun {j} h => by rw [wipe_at, if_neg h]
  refine ⟨w.sub, w.bas, w.gro, w.prt, by rw [wipe_length, wipR_len]; exact w.len, fun j d e => ?_, fun j o e => ?_, fun i j o o' a e1 e2 e3 e4 => ?_, fun p hp => ?_⟩
  · obtain ⟨h, e⟩ := out (by intro z; cases z) e
    rw [at_ h]; exact w.dat j d e
  · obtain ⟨h, e⟩ := out (by intro z; cases z) e
    rw [at_ h]; exact w.own j o e
  · obtain ⟨h1, e1⟩ := out (by intro z; cases z) e1
    obtain ⟨h2, e2⟩ := out (by intro z; cases z) e2
    rw [at_ h1] at e3
    rw [at_ h2] at e4
    exact w.dis i j o o' a e1 e2 e3 e4
  · have h := hk p hp
    rw [at_ h, wipR_out ρ h]; exact w.kep p hp
/-- the names of the comprehension are the frame's own again -/
theorem Rel.unwipe {H1 G1 : Hp} {ρ1 ρ2 : Rho} (w1 : Rel K b σ H1 G1 ρ1) (w2 : Rel K b (L2.wipe σ vs) H G ρ2) (x : Ex G1 G) (hv : ∀ v ∈ vs, ∀ o, ρ1[v]? ≠ some (.own o)) (hk : ∀ p ∈ b.kp, p.1 ∉ vs) : Rel K b σ H G (unw vs ρ1 ρ2) := by
  have at_ : ∀ {j : Nat}, j ∉ vs → (L2.wipe σ vs)[j]? = σ[j]? := fun {j} h => by rw [wipe_at, if_neg h]
  have own_ : ∀ {j : Nat} {o : Own}, (unw vs ρ1 ρ2)[j]? = some (.own o) → j ∉ vs ∧ ρ2[j]? = some (.own o) := fun {j o} e => by
    by_cases h : j ∈ vs
    · rcases unw_in ρ1 ρ2 h e with z | z
      · cases z
      · exact absurd z (hv j h o)
    · rw [unw_out ρ1 ρ2 h] at e; exact ⟨h, e⟩
  refine ⟨w2.sub, w2.bas, w2.gro, w2.prt, by rw [unw_len, ← w2.len, wipe_length], fun j d e => ?_, fun j o e => ?_, fun i j o o' a e1 e2 e3 e4 => ?_, fun p hp => ?_⟩
  · by_cases h : j ∈ vs
    · rcases unw_in ρ1 ρ2 h e with z | z
      · cases z
      · obtain ⟨v, y1, y2⟩ := w1.dat j d z
        exact ⟨v, y1, y2.up x⟩
    · rw [unw_out ρ1 ρ2 h] at e
      rw [← at_ h]
      exact w2.dat j d e
  · obtain ⟨h, e⟩ := own_ e
    rw [← at_ h]; exact w2.own j o e
  · obtain ⟨h1, e1⟩ := own_ e1
    obtain ⟨h2, e2⟩ := own_ e2
    rw [← at_ h1] at e3
    rw [← at_ h2] at e4
    exact w2.dis i j o o' a e1 e2 e3 e4
  · have h := hk p hp
    rw [← at_ h, unw_out ρ1 ρ2 h]; exact w2.kep p hp
/-- an object that is nobody's is changed -/
theorem Rel.touch {p : Addr} {h h' : HO} (w : Rel K b σ H G ρ) (hp : H p = some h) (hg : G p = none) (hb : b.B p = none) (hn : ∀ (i : Nat) (o' : Own), ρ[i]? = some (.own o') → σ[i]? ≠ some (some (.ref p))) : Rel K b σ (upd H p h') G ρ where
  sub := w.sub.over hg
  bas := w.bas.over hb
  gro := w.gro
  prt := w.prt
  len := w.len
  dat := w.dat
  own := fun i o e => by
    obtain ⟨a, u, z1, z2, z3⟩ := w.own i o e
    exact ⟨a, u, z1, by rw [upd_ne (fun z => hn i o e (by rw [← z]; exact z1))]; exact z2, z3⟩
  dis := w.dis
  kep := w.kep
end

def compL (ks : List Nat) (g : GD) (tt : TTD) (te : TD) (vs : List Nat) : List D → List D → Rho → (List D → Rho → Prop) → Prop
  | [], acc, ρ, Q => Q acc ρ
  | d :: ds, acc, ρ, Q => g d ρ fun ρ1 => tt ρ1 fun c ρ2 => if c = true then te ρ2 fun r ρ3 => lk (frz ks r ρ3) fun p => acc.length < sizeLine ∧ compL ks g tt te vs ds (acc ++ [p.1]) (wipR p.2 vs) Q else compL ks g tt te vs ds acc (wipR ρ2 vs) Q
def wLc (ks : List Nat) (ti : TID) (g : GD) (tt : TTD) (te : TD) (vs : List Nat) : TD := fun ρ Q => ti ρ fun ds ρ1 => (∀ v ∈ vs, v ∉ ks ∧ ∀ o, ρ1[v]? ≠ some (.own o)) ∧ compL ks g tt te vs ds [] (wipR ρ1 vs) fun acc ρ2 => Q (.own (.lst acc)) (unw vs ρ1 ρ2)
def wYes : TTD := fun ρ Q => Q true ρ
theorem RpA.snoc {K : PySem.W.Frag} {G : Hp} {v : V} {d : D} (q : Rp K G v d) : ∀ {xs : List V} {ds : List D}, RpA K G xs ds → RpA K G (xs ++ [v]) (ds ++ [d])
  | _, _, .nil => .cons q .nil
  | _, _, .cons h r => .cons h (r.snoc q)
theorem lc_go {K : PySem.W.Frag} {b : Bas} {ks is vs : List Nat} {ti : TID} {g : GD} {tt : TTD} {te : TD} (hk : b.kp.map (·.1) = ks) (hi : ∀ i ∈ is, i ∈ vs) {σ : L2.St} {H : Hp} {Q : VK} (q : lift K b (wLc ks ti g tt te vs) σ H Q) :
    tLc (liftI K b ti) (liftG K b is g) (liftT K b tt) (lift K b te) vs σ H Q := by
  obtain ⟨G, ρ, QD, w, q, k⟩ := q
  refine ⟨G, ρ, _, w, q, fun J H1 G1 ds ρ1 w1 m1 it z D hD => ?_⟩
  obtain ⟨hv, z⟩ := z
  have hkv : ∀ p ∈ b.kp, p.1 ∉ vs := fun p hp h => (hv p.1 h).1 (by rw [← hk]; exact List.mem_map_of_mem hp)
  have ww := w1.wipe hkv
  have hBD : b.B D = none := w1.bas.gone hD
  refine ⟨fun i m Hh => m = ds.length - i ∧ ∃ G2 ρ2 acc xs, Rel K b (L2.wipe σ vs) Hh G2 ρ2 ∧ Fm (L2.wipe σ vs) (wipR ρ1 vs) H1 G1 ρ2 Hh G2 ∧ Hh D = some (.lst xs) ∧ G2 D = none ∧ RpA K G2 xs acc ∧ (∀ v ∈ vs, ∀ s, ρ2[v]? = some s → s = .no) ∧
    compL ks g tt te vs (ds.drop i) acc ρ2 (fun acc ρ2 => QD (.own (.lst acc)) (unw vs ρ1 ρ2)), ⟨ds.length, (Nat.sub_zero _).symm, G1, wipR ρ1 vs, [], [], ww.new hD, ww.newF hD, upd_same, w1.sub.gone hD, .nil, fun v h s e => wipR_in ρ1 h e, z⟩, fun i m H2 q2 => ?_⟩
  obtain ⟨rfl, G2, ρ2, acc, xs, w2, m2, hD2, gD2, ra, nv, z2⟩ := q2
  have un2 : ∀ {ρ3 : Rho}, (∀ (j : Nat) (o : Own), ρ3[j]? = some (.own o) → ∃ o', (wipR ρ1 vs)[j]? = some (.own o')) → ∀ (j : Nat) (o : Own), ρ3[j]? = some (.own o) → (L2.wipe σ vs)[j]? ≠ some (some (.ref D)) := fun {ρ3} h j o e y => by
    obtain ⟨o', e'⟩ := h j o e
    exact ww.apart hD j o' e' y
  cases e : ds[i]? with
  | none =>
    have hl : ds.length ≤ i := List.getElem?_eq_none_iff.mp e
    rw [List.drop_eq_nil_of_le hl] at z2
    have x2 := m2.ex
    have w3 := Rel.unwipe w1 w2 x2 (fun v h => (hv v h).2) hkv
    have owv : ∀ (j : Nat) (o : Own), (unw vs ρ1 ρ2)[j]? = some (.own o) → j ∉ vs ∧ ρ2[j]? = some (.own o) := fun j o e => by
      by_cases h : j ∈ vs
      · rcases unw_in ρ1 ρ2 h e with z | z
        · cases z
        · exact absurd z ((hv j h).2 o)
      · rw [unw_out ρ1 ρ2 h] at e; exact ⟨h, e⟩
    have m3 : Fm σ ρ1 H1 G1 (unw vs ρ1 ρ2) H2 G2 := by
      refine ⟨x2, fun a o h n => m2.kp a o h fun j o' y => ?_, fun j o y => ?_, m2.dm⟩
      · have hj : j ∉ vs := fun hj => by have := wipR_in ρ1 hj y; cases this
        rw [wipR_out ρ1 hj] at y
        rw [wipe_at, if_neg hj]
        exact n j o' y
      · obtain ⟨hj, y⟩ := owv j o y
        obtain ⟨o', y⟩ := m2.ow j o y
        rw [wipR_out ρ1 hj] at y
        exact ⟨o', y⟩
    refine .inl ⟨(it i H2 G2 x2 w2.sub).2 hl, k (.ref D) H2 G2 (.own (.lst acc)) _ w3 (m1.trans m3) ⟨D, _, rfl, hD2, gD2, hBD, .lst ra, fun j o y => ?_, m1.dm D hD⟩ z2⟩
    obtain ⟨hj, y⟩ := owv j o y
    have := un2 m2.ow j o y
    rw [wipe_at, if_neg hj] at this
    exact this
  | some d =>
    rw [drop_at e] at z2
    obtain ⟨g1, g2⟩ := (it i H2 G2 m2.ex w2.sub).1 d e
    have hl : i < ds.length := (List.getElem?_eq_some_iff.mp e).1
    -- what a turn is to reach
    refine .inr ⟨g1, fun Hh => ∃ G2 ρ2 acc xs, Rel K b (L2.wipe σ vs) Hh G2 ρ2 ∧ Fm (L2.wipe σ vs) (wipR ρ1 vs) H1 G1 ρ2 Hh G2 ∧ Hh D = some (.lst xs) ∧ G2 D = none ∧ RpA K G2 xs acc ∧ (∀ v ∈ vs, ∀ s, ρ2[v]? = some s → s = .no) ∧
      compL ks g tt te vs (ds.drop (i + 1)) acc ρ2 (fun acc ρ2 => QD (.own (.lst acc)) (unw vs ρ1 ρ2)), fun H' h => ⟨ds.length - (i + 1), by omega, rfl, h⟩, fun x H' y => ?_⟩
    obtain ⟨zz, ez, o⟩ := g2 x H' y
    obtain ⟨G3, w3, m3, q3⟩ := o.go w2
    rw [ez] at q3
    refine ⟨G3, ρ2, d, _, w3, q3, z2, fun σ4 ρ4 w4 len4 out4 outr4 own4 z4 => ?_⟩
    have ew : L2.wipe σ4 vs = L2.wipe σ vs := by
      refine List.ext_getElem? fun j => ?_
      rw [wipe_at, wipe_at]
      by_cases hj : j ∈ vs
      · rw [if_pos hj, if_pos hj]
        have l1 : σ4.length = σ.length := by rw [len4, wipe_length]
        by_cases hl : j < σ.length
        · rw [List.getElem?_eq_getElem hl, List.getElem?_eq_getElem (by omega)]; rfl
        · rw [List.getElem?_eq_none (by omega), List.getElem?_eq_none (by omega)]
      · rw [if_neg hj, if_neg hj, out4 j fun h => hj (hi j h), wipe_at, if_neg hj]
    refine ⟨ew, G3, ρ4, _, w4, z4, fun c H5 G5 ρ5 w5 m5 z5 => ?_⟩
    -- the frame's memory over the block
    have conv : ∀ {H6 G6 : Hp} {ρ6 : Rho}, Fm σ4 ρ4 H' G3 ρ6 H6 G6 → Fm (L2.wipe σ vs) ρ2 H' G3 ρ6 H6 G6 := fun {H6 G6 ρ6} m => by
      refine ⟨m.ex, fun a o h n => m.kp a o h fun j o' y => ?_, fun j o y => ?_, m.dm⟩
      · have y2 := own4 j o' y
        have hj : j ∉ vs := fun hj => by have := nv j hj _ y2; cases this
        rw [out4 j fun h => hj (hi j h)]
        exact n j o' y2
      · obtain ⟨o', y⟩ := m.ow j o y
        exact ⟨o', own4 j o' y⟩
    have fin : ∀ {H6 G6 : Hp} {ρ6 : Rho} {acc' : List DL.D} {xs' : List V}, Rel K b σ4 H6 G6 ρ6 → Fm (L2.wipe σ vs) (wipR ρ1 vs) H1 G1 ρ6 H6 G6 → H6 D = some (.lst xs') → G6 D = none → RpA K G6 xs' acc' →
        compL ks g tt te vs (ds.drop (i + 1)) acc' (wipR ρ6 vs) (fun acc ρ2 => QD (.own (.lst acc)) (unw vs ρ1 ρ2)) → ∃ G2 ρ2 acc xs, Rel K b (L2.wipe σ vs) H6 G2 ρ2 ∧ Fm (L2.wipe σ vs) (wipR ρ1 vs) H1 G1 ρ2 H6 G2 ∧ H6 D = some (.lst xs) ∧ G2 D = none ∧ RpA K G2 xs acc ∧ (∀ v ∈ vs, ∀ s, ρ2[v]? = some s → s = .no) ∧
          compL ks g tt te vs (ds.drop (i + 1)) acc ρ2 (fun acc ρ2 => QD (.own (.lst acc)) (unw vs ρ1 ρ2)) := fun {H6 G6 ρ6 acc' xs'} w6 m6 h1 h2 h3 h4 => by
      have w7 := w6.wipe (vs := vs) hkv
      rw [ew] at w7
      refine ⟨G6, wipR ρ6 vs, acc', xs', w7, ⟨m6.ex, m6.kp, fun j o y => ?_, m6.dm⟩, h1, h2, h3, fun v h s e => wipR_in ρ6 h e, h4⟩
      have hj : j ∉ vs := fun hj => by have := wipR_in ρ6 hj y; cases this
      rw [wipR_out ρ6 hj] at y
      exact m6.ow j o y
    have keepD : ∀ {Ha Ga Hb Gb : Hp} {ρa ρb : Rho}, Fm (L2.wipe σ vs) ρa Ha Ga ρb Hb Gb → (∀ (j : Nat) (o : Own), ρa[j]? = some (.own o) → ∃ o', (wipR ρ1 vs)[j]? = some (.own o')) → Ha D = some (.lst xs) → Ga D = none → Hb D = some (.lst xs) ∧ Gb D = none := fun {Ha Ga Hb Gb ρa ρb} m h h1 h2 => by
      obtain ⟨y1, y2⟩ := m.kp D _ h1 (un2 h)
      exact ⟨y1, y2 h2⟩
    obtain ⟨hD3, gD3⟩ := keepD m3 m2.ow hD2 gD2
    have m23 := m2.trans m3
    have m5' := conv m5
    obtain ⟨hD5, gD5⟩ := keepD m5' m2.ow hD3 gD3
    cases c with
    | false =>
      exact iteF (fin w5 (m23.trans m5') hD5 gD5 (ra.up (m3.ex.trans m5.ex)) z5)
    | true =>
      refine iteT ⟨G5, ρ5, _, w5, z5, fun u H6 G6 r ρ6 w6 m6 q6 z6 => ?_⟩
      obtain ⟨p, e6, hz, z6⟩ := lk_get z6
      obtain ⟨dd, ρ7⟩ := p
      have m56 := m5.trans m6
      obtain ⟨G7, w7, m7, x7, r7, _⟩ := w6.frz hk m56 (q6.back m5.dm) e6
      have m7' := conv m7
      obtain ⟨hD7, gD7⟩ := keepD m7' m2.ow hD3 gD3
      have x37 := m3.ex.trans m7.ex
      refine ⟨xs, hD7, by rw [ra.len]; exact hz, ?_⟩
      -- D unowned in the last frame
      have un7 : ∀ (j : Nat) (o : Own), ρ7[j]? = some (.own o) → σ4[j]? ≠ some (some (.ref D)) := fun j o y => by
        obtain ⟨o4, y4⟩ := m7.ow j o y
        have y2 := own4 j o4 y4
        have hj : j ∉ vs := fun hj => by have := nv j hj _ y2; cases this
        rw [out4 j fun h => hj (hi j h)]
        exact un2 m2.ow j o4 y2
      have m8 : Fm (L2.wipe σ vs) (wipR ρ1 vs) H1 G1 ρ7 (upd H6 D (.lst (xs ++ [u]))) G7 := by
        have m9 := m23.trans m7'
        refine ⟨m9.ex, fun a o h n => ?_, m9.ow, fun a h => ?_⟩
        · obtain ⟨y1, y2⟩ := m9.kp a o h n
          exact ⟨by rw [upd_ne (ne_of_none h hD)]; exact y1, y2⟩
        · by_cases ha : a = D
          · subst ha; exact hD
          · rw [upd_ne ha] at h; exact m9.dm a h
      exact fin (w7.touch hD7 gD7 hBD un7) m8 upd_same gD7 (RpA.snoc r7 (ra.up x37)) z6
section
variable {X : Cx} {b : Bas} {ks is : List Nat}
/-- what a block of a comprehension is judged in -/
abbrev Blk (X : Cx) (scope : Scope) (P : Cx → Prop) : Prop := ∀ (s : Shared) (H : Hp) (C : Addr) (cl : List (Str × Addr)) (fp : List Addr), P (X.blk s H scope (compEnvC scope cl C X.env) fp)
theorem d_lc {elt tg iter : Expr} {ifs : List Expr} {scope : Scope} {own : List (Str × Nat)} {pos : Pos} {ti : TID} {g : GD} {tt : TTD} {te : TD} (hk : b.kp.map (·.1) = ks) (hi : ∀ i ∈ is, i ∈ own.map (·.2)) (hc : X.calm = true) (hN : X.N.Nodup) (h : PI X tg iter (liftI X.K b ti)) (ok : BlkOk X.N X.env.scope scope own)
    (hg : Blk X scope fun Y => PG Y tg (liftG X.K b is g)) (ht : Blk X scope fun Y => PTs Y ifs (liftT X.K b tt)) (he : Blk X scope fun Y => PE Y elt (lift X.K b te)) (hs : ∀ x, foldedSetIterable iter X.env x = pure x := by intro _; rfl) :
    PD X b (.ListComp elt [⟨tg, iter, ifs, 0⟩] scope pos) (wLc ks ti g tt te (own.map (·.2))) := pe_weak (pe_lc hc hN h ok hg ht he hs) fun _ _ _ q => lc_go hk hi q
theorem s_setLc {i : Nat} {y : Str} {py spos : Pos} {elt tg iter : Expr} {ifs : List Expr} {scope : Scope} {own : List (Str × Nat)} {pos : Pos} {ti : TID} {g : GD} {tt : TTD} {te : TD} (hk : b.kp.map (·.1) = ks) (hi : ∀ i ∈ is, i ∈ own.map (·.2)) (hc : X.calm = true) (hN : X.N.Nodup) (hy : X.N[i]? = some y) (hl : X.env.scope.names.lookup y = some .local)
    (hsw : swapsWith (.ListComp elt [⟨tg, iter, ifs, 0⟩] scope pos) (some (.Name y py)) spos.line X.env = pure true) (h : PI X tg iter (liftI X.K b ti)) (ok : BlkOk X.N X.env.scope scope own)
    (hg : Blk X scope fun Y => PG Y tg (liftG X.K b is g)) (ht : Blk X scope fun Y => PTs Y ifs (liftT X.K b tt)) (he : Blk X scope fun Y => PE Y elt (lift X.K b te)) (hs : ∀ x, foldedSetIterable iter X.env x = pure x := by intro _; rfl) :
    PSD X b (.Assign [.Name y py] (.ListComp elt [⟨tg, iter, ifs, 0⟩] scope pos) spos) (wAsg ks i (wLc ks ti g tt te (own.map (·.2)))) := ps_weak (ps_setLc hc hN hy hl hsw h ok hg ht he hs) fun _ _ _ q => lc_go hk hi (asg_go hk q)
theorem ts_nil {Y : Cx} : PTs Y [] (liftT Y.K b wYes) := ⟨fun pins s σ H Q I q => by
  obtain ⟨G, ρ, QD, w, q, k⟩ := q
  exact pts_nil.run pins s σ H Q I (k true H G ρ w (Fm.refl σ ρ H G) q)⟩
theorem ts_one {Y : Cx} {c : Expr} {tt : TTD} (h : PTD Y b c tt) : PTs Y [c] (liftT Y.K b tt) := pts_one h
end
end DL

set_option Elab.async false
set_option maxRecDepth 100000
set_option maxHeartbeats 4000000
/-! DL8: operations over data. -/
namespace DL
open PySem PySem.Spec PyProof.Rows L2

/-! ### whole numbers -/
def gInt (f : Int → Int → Option D) : D → D → Option Z
  | .int i, .int j => (f i j).map .d
  | _, _ => none
theorem op2_int {K : PySem.W.Frag} {r : R2} {f : Int → Int → Option D} (h : ∀ i j d v H (Q : VK), f i j = some d → vD d = some v → Q v H → r (.int i) (.int j) H Q) (hs : ∀ i j d, f i j = some d → ∃ v, vD d = some v) : Op2 K r (gInt f) := fun H G x y d e z Q _ rx ry hz k => by
  cases d <;> try cases hz
  cases e <;> try cases hz
  rename_i i j
  obtain rfl := rx.int
  obtain rfl := ry.int
  cases q : f i j with
  | none => rw [show gInt f (.int i) (.int j) = (f i j).map .d from rfl, q] at hz; cases hz
  | some d =>
    rw [show gInt f (.int i) (.int j) = (f i j).map .d from rfl, q] at hz
    cases hz
    obtain ⟨v, hv⟩ := hs i j d q
    exact h i j d v H Q q hv (k v H ⟨rfl, rp_vD hv⟩)
def fAdd (i j : Int) : Option D := some (.int (i + j))
def fSub (i j : Int) : Option D := some (.int (i - j))
def fMul (i j : Int) : Option D := if i.natAbs.log2 + j.natAbs.log2 < 1000000 then some (.int (i * j)) else none
def fDiv (i j : Int) : Option D := if 0 < j ∧ j.natAbs.log2 < 9000 then some (.int (i / j)) else none
def fMod (i j : Int) : Option D := if 0 < j then some (.int (i % j)) else none
def fPow (i j : Int) : Option D := if 0 ≤ j ∧ j ≤ 1000000 ∧ i.natAbs < 2 ^ 64 then some (.int (i ^ j.toNat)) else none
def fLt (i j : Int) : Option D := some (.bl (decide (i < j)))
def fLe (i j : Int) : Option D := some (.bl (decide (i ≤ j)))
def fGt (i j : Int) : Option D := some (.bl (decide (j < i)))
def fGe (i j : Int) : Option D := some (.bl (decide (j ≤ i)))
section
variable {K : PySem.W.Frag}
theorem o_sub : Op2 K (rI0 fun i j => .int (i - j)) (gInt fSub) := op2_int (fun i j d v H Q e hv q => by cases e; cases hv; exact ⟨i, j, rfl, rfl, q⟩) fun i j d e => by cases e; exact ⟨_, rfl⟩
theorem o_mul : Op2 K (rI CMulW fun i j => .int (i * j)) (gInt fMul) := op2_int (fun i j d v H Q e hv q => by
  unfold fMul at e
  split at e
  · rename_i h; cases e; cases hv; exact ⟨i, j, rfl, rfl, h, q⟩
  · cases e) fun i j d e => by
  unfold fMul at e
  split at e
  · cases e; exact ⟨_, rfl⟩
  · cases e
theorem o_div : Op2 K (rI CDivW fun i j => .int (i / j)) (gInt fDiv) := op2_int (fun i j d v H Q e hv q => by
  unfold fDiv at e
  split at e
  · rename_i h; cases e; cases hv; exact ⟨i, j, rfl, rfl, h, q⟩
  · cases e) fun i j d e => by
  unfold fDiv at e
  split at e
  · cases e; exact ⟨_, rfl⟩
  · cases e
theorem o_mod : Op2 K (rI (fun _ j => 0 < j) fun i j => .int (i % j)) (gInt fMod) := op2_int (fun i j d v H Q e hv q => by
  unfold fMod at e
  split at e
  · rename_i h; cases e; cases hv; exact ⟨i, j, rfl, rfl, h, q⟩
  · cases e) fun i j d e => by
  unfold fMod at e
  split at e
  · cases e; exact ⟨_, rfl⟩
  · cases e
theorem o_pow : Op2 K (rI CPow fun i j => .int (i ^ j.toNat)) (gInt fPow) := op2_int (fun i j d v H Q e hv q => by
  unfold fPow at e
  split at e
  · rename_i h; cases e; cases hv; exact ⟨i, j, rfl, rfl, h, q⟩
  · cases e) fun i j d e => by
  unfold fPow at e
  split at e
  · cases e; exact ⟨_, rfl⟩
  · cases e
theorem o_lt : Op2 K (rI0 fun i j => .bl (decide (i < j))) (gInt fLt) := op2_int (fun i j d v H Q e hv q => by cases e; cases hv; exact ⟨i, j, rfl, rfl, q⟩) fun i j d e => by cases e; exact ⟨_, rfl⟩
theorem o_le : Op2 K (rI0 fun i j => .bl (decide (i ≤ j))) (gInt fLe) := op2_int (fun i j d v H Q e hv q => by cases e; cases hv; exact ⟨i, j, rfl, rfl, q⟩) fun i j d e => by cases e; exact ⟨_, rfl⟩
theorem o_gt : Op2 K (rI0 fun i j => .bl (decide (j < i))) (gInt fGt) := op2_int (fun i j d v H Q e hv q => by cases e; cases hv; exact ⟨i, j, rfl, rfl, q⟩) fun i j d e => by cases e; exact ⟨_, rfl⟩
theorem o_ge : Op2 K (rI0 fun i j => .bl (decide (j ≤ i))) (gInt fGe) := op2_int (fun i j d v H Q e hv q => by cases e; cases hv; exact ⟨i, j, rfl, rfl, q⟩) fun i j d e => by cases e; exact ⟨_, rfl⟩

end

/-! ### +: numbers, texts, lists, tuples -/
def gAdd : D → D → Option Z
  | .int i, .int j => some (.d (.int (i + j)))
  | .str x, .str y => if x.length + y.length ≤ sizeLine then some (.d (.str (x ++ y))) else none
  | .lst l, .lst m => if l.length + m.length ≤ sizeLine then some (.n (.lst (l ++ m))) else none
  | .tup l, .tup m => if l.length + m.length ≤ sizeLine then some (.t (l ++ m)) else none
  | _, _ => none
theorem RpA.app {K : PySem.W.Frag} {G : Hp} : ∀ {xs ys : List V} {ds es : List D}, RpA K G xs ds → RpA K G ys es → RpA K G (xs ++ ys) (ds ++ es)
  | _, _, _, _, .nil, q => q
  | _, _, _, _, .cons h r, q => .cons h (r.app q)
/-- t + u -/
def rCatP (K : PySem.W.Frag) : R2 := fun x y H Q => ∃ a b xs ys, x = .ref a ∧ y = .ref b ∧ SqT K H a xs ∧ SqT K H b ys ∧ xs.length + ys.length ≤ sizeLine ∧
  (xs = [] → Q (.ref b) H) ∧ (xs ≠ [] → ys = [] → Q (.ref a) H) ∧ (xs ≠ [] → ys ≠ [] → NewT H (xs ++ ys) Q)
theorem op_catP {X : Cx} : OpR X (binaryOp .Add) (rCatP X.K) := by
  intro pins s σ H x y v u Q I rx ry h
  obtain ⟨a, b, xs, ys, rfl, rfl, ha, hb, hz, q0, q1, q2⟩ := h
  cases rx
  cases ry
  obtain ⟨its, r1, p1, _⟩ := I.tuple ha
  obtain ⟨its2, r2, p2, _⟩ := I.tuple hb
  by_cases hx : xs = []
  · subst hx
    cases r1
    exact cat_tup0 p1 p2 ⟨.ref b, H, I, rfl, q0 rfl⟩
  · refine HT.cat_tup p1 p2 (fun z => hx (r1.nil_iff.mp z)) (fun z => ⟨.ref a, H, I, rfl, q1 hx (r2.nil_iff.mp z)⟩) (fun z => ?_) (by rw [← r1.length, ← r2.length]; exact hz)
    exact laidT I (r1.append r2) (by rw [List.length_append]; exact hz) (q2 hx fun w => z (r2.nil_iff.mpr w))
/-- + of two numbers, texts, lists, tuples -/
def rAdd3 (K : PySem.W.Frag) : R2 := fun x y H Q => (((rI0 fun i j => .int (i + j)) x y H Q ∨ (∃ i j, x = .str i ∧ y = .str j ∧ i.length + j.length ≤ sizeLine ∧ Q (.str (i ++ j)) H)) ∨ rCat x y H Q) ∨ rCatP K x y H Q
theorem op_add3 {X : Cx} : OpR X (binaryOp .Add) (rAdd3 X.K) := ((op_add.or op_add_str).or op_cat).or op_catP
theorem o_add3 {K : PySem.W.Frag} : Op2 K (rAdd3 K) gAdd := fun H G x y d e z Q xx rx ry hz k => by
  unfold gAdd at hz
  split at hz
  · cases hz
    obtain rfl := rx.int
    obtain rfl := ry.int
    exact .inl (.inl (.inl ⟨_, _, rfl, rfl, k _ H ⟨rfl, .int _⟩⟩))
  · split at hz
    · rename_i hl
      cases hz
      obtain rfl := rx.str
      obtain rfl := ry.str
      exact .inl (.inl (.inr ⟨_, _, rfl, rfl, hl, k _ H ⟨rfl, .str _⟩⟩))
    · cases hz
  · split at hz
    · rename_i hle
      cases hz
      obtain ⟨a, xs, rfl, h1, r1⟩ := rx.lst xx
      obtain ⟨c, ys, rfl, h2, r2⟩ := ry.lst xx
      exact .inl (.inr ⟨a, c, xs, ys, rfl, rfl, h1, h2, by rw [r1.len, r2.len]; exact hle, fun p hp => k _ _ ⟨p, _, rfl, hp, rfl, .lst (r1.app r2)⟩⟩)
    · cases hz
  · split at hz
    · rename_i l m hle
      cases hz
      obtain ⟨a, xs, rfl, h1, r1, p1⟩ := rx.tup xx
      obtain ⟨c, ys, rfl, h2, r2, p2⟩ := ry.tup xx
      refine .inr ⟨a, c, xs, ys, rfl, rfl, h1.1, h2.1, by rw [r1.len, r2.len]; exact hle, fun e => k _ _ (.inr ⟨rfl, ?_⟩), fun _ e => k _ _ (.inr ⟨rfl, ?_⟩), fun _ _ p o ho hp => k _ _ (.inl ⟨p, o, _, rfl, ho, hp, rfl, r1.app r2⟩)⟩
      · subst e
        cases r1
        exact p2
      · subst e
        cases r2
        rw [List.append_nil]
        exact p1
    · cases hz
  · cases hz

/-! ### items -/
def gIx : D → D → Option Z
  | .lst l, .int i => (atI l i).map .d
  | .tup l, .int i => (atI l i).map .d
  | .str x, .int i => if x.length ≤ sizeLine then (atI x.cps.toList i).map fun c => .d (.str ⟨#[c]⟩) else none
  | _, _ => none
section
variable {K : PySem.W.Frag}
theorem atI_rp {G : Hp} {xs : List V} {ds : List D} {i : Int} {d : D} (r : RpA K G xs ds) (h : atI ds i = some d) : ∃ v, atI xs i = some v ∧ Rp K G v d := by
  unfold atI at h ⊢
  rw [r.len]
  cases q : ixN ds.length i with
  | none => rw [q] at h; cases h
  | some j =>
    rw [q] at h
    exact r.at h
theorem o_ix : Op2 K (rIx K) gIx := fun H G x y d e z Q xx rx ry hz k => by
  unfold gIx at hz
  split at hz
  · rename_i l i
    obtain rfl := ry.int
    obtain ⟨a, xs, rfl, h1, r1⟩ := rx.lst xx
    cases q : atI l i with
    | none => rw [q] at hz; cases hz
    | some d =>
      rw [q] at hz
      cases hz
      obtain ⟨v, e1, e2⟩ := atI_rp r1 q
      exact .inl ⟨a, xs, i, v, rfl, rfl, SqL.of h1, e1, k v H ⟨rfl, e2⟩⟩
  · rename_i l i
    obtain rfl := ry.int
    obtain ⟨a, xs, rfl, ⟨h1, _⟩, r1, _⟩ := rx.tup xx
    cases q : atI l i with
    | none => rw [q] at hz; cases hz
    | some d =>
      rw [q] at hz
      cases hz
      obtain ⟨v, e1, e2⟩ := atI_rp r1 q
      exact .inr (.inl ⟨a, xs, i, v, rfl, rfl, h1, e1, k v H ⟨rfl, e2⟩⟩)
  · rename_i x i
    obtain rfl := ry.int
    obtain rfl := rx.str
    split at hz
    · rename_i hl
      cases q : atI x.cps.toList i with
      | none => rw [q] at hz; cases hz
      | some c =>
        rw [q] at hz
        cases hz
        exact .inr (.inr ⟨x, i, c, rfl, rfl, hl, q, k _ H ⟨rfl, .str _⟩⟩)
    · cases hz
  · cases hz
end

/-! ### slices -/
def wNoP : Rho → (Option Int → Rho → Prop) → Prop := fun ρ Q => Q none ρ
def wPart (ta : TD) : Rho → (Option Int → Rho → Prop) → Prop := fun ρ Q => ta ρ fun r ρ1 => lk (con ρ1 r) fun d => match d with
  | .int i => Q (some i) ρ1
  | _ => False
def liftP (K : PySem.W.Frag) (b : Bas) (td : Rho → (Option Int → Rho → Prop) → Prop) : TO := fun σ H Q => ∃ G ρ QD, Rel K b σ H G ρ ∧ td ρ QD ∧ ∀ o H' G' ρ', Rel K b σ H' G' ρ' → Fm σ ρ H G ρ' H' G' → QD o ρ' → Q o H'
def wSl (g : D → Option Int → Option Int → Option Z) (ta : TD) (tl th : Rho → (Option Int → Rho → Prop) → Prop) : TD := fun ρ Q => ta ρ fun r ρ1 => tl ρ1 fun lo ρ2 => th ρ2 fun hi ρ3 => lk (con ρ3 r) fun d => lk (g d lo hi) fun z => Q z.r ρ3
def SlD (K : PySem.W.Frag) (r : V → Option Int → Option Int → Hp → VK → Prop) (g : D → Option Int → Option Int → Option Z) : Prop := ∀ (H G : Hp) (x : V) (d : D) (lo hi : Option Int) (z : Z) (Q : VK), Ex G H → Rc K H G x d → g d lo hi = some z → (∀ v H', Out K H G v H' z → Q v H') → r x lo hi H Q
section
variable {X : Cx} {b : Bas} {e : Expr} {lo hi : Option Expr} {ta : TD} {tl th : Rho → (Option Int → Rho → Prop) → Prop} {pos p2 : Pos}
theorem po_weak {e : Option Expr} {t t' : TO} (h : PO X e t) (w : ∀ σ H Q, t' σ H Q → t σ H Q) : PO X e t' := ⟨fun pins s σ H Q I q => h.run pins s σ H Q I (w σ H Q q)⟩
theorem p_none : PO X none (liftP X.K b wNoP) := po_weak po_none fun σ H Q q => by
  obtain ⟨G, ρ, QD, w, q, k⟩ := q
  exact k none H G ρ w (Fm.refl σ ρ H G) q
theorem p_some (h : PD X b e ta) : PO X (some e) (liftP X.K b (wPart ta)) := po_weak (po_some h) fun σ H Q q => by
  obtain ⟨G, ρ, QD, w, q, k⟩ := q
  refine ⟨G, ρ, _, w, q, fun v H1 G1 r ρ1 w1 m1 q1 z => ?_⟩
  obtain ⟨d, e1, z⟩ := lk_get z
  split at z
  · rename_i i
    exact ⟨i, (q1.rc w1 e1).int, k _ H1 G1 ρ1 w1 m1 z⟩
  · exact z.elim
theorem d_sl {r : V → Option Int → Option Int → Hp → VK → Prop} {g : D → Option Int → Option Int → Option Z} (hr : SlR X r) (hg : SlD X.K r g) (he : PD X b e ta) (hl : PO X lo (liftP X.K b tl)) (hu : PO X hi (liftP X.K b th)) : PD X b (.Subscript e (.Slice lo hi none p2) pos) (wSl g ta tl th) :=
  pe_weak (pe_slice hr he hl hu) fun σ H Q q => by
    obtain ⟨G, ρ, QD, w, q, k⟩ := q
    refine ⟨G, ρ, _, w, q, fun v H1 G1 r ρ1 w1 m1 q1 z => ⟨G1, ρ1, _, w1, z, fun lo H2 G2 ρ2 w2 m2 z => ⟨G2, ρ2, _, w2, z, fun hi H3 G3 ρ3 w3 m3 z => ?_⟩⟩⟩
    obtain ⟨d, e1, z⟩ := lk_get z
    obtain ⟨y, e2, z⟩ := lk_get z
    refine hg H3 G3 v d lo hi y Q w3.sub ((q1.stay (m2.trans m3)).rc w3 e1) e2 fun v' H' o => ?_
    obtain ⟨G', w', m', q'⟩ := o.go w3
    exact k v' H' G' _ ρ3 w' (((m1.trans m2).trans m3).trans m') (q'.back ((m1.trans m2).trans m3).dm) z
end
def cutD (l : List D) (lo hi : Option Int) : List D := (l.drop (HT.sIx l.length 0 lo)).take (HT.sIx l.length l.length hi - HT.sIx l.length 0 lo)
def gSlL : D → Option Int → Option Int → Option Z
  | .lst l, lo, hi => some (.n (.lst (cutD l lo hi)))
  | .fzl l, lo, hi => some (.n (.lst (cutD l lo hi)))
  | _, _, _ => none
section
variable {K : PySem.W.Frag}
theorem RpA.take {G : Hp} : ∀ {xs : List V} {ds : List D} (n : Nat), RpA K G xs ds → RpA K G (xs.take n) (ds.take n)
  | _, _, 0, _ => .nil
  | _, _, _ + 1, .nil => .nil
  | _, _, n + 1, .cons h r => .cons h (r.take n)
theorem RpA.drop {G : Hp} : ∀ {xs : List V} {ds : List D} (n : Nat), RpA K G xs ds → RpA K G (xs.drop n) (ds.drop n)
  | _, _, 0, r => r
  | _, _, _ + 1, .nil => .nil
  | _, _, n + 1, .cons _ r => r.drop n
theorem cut_rp {G : Hp} {xs : List V} {ds : List D} (r : RpA K G xs ds) (lo hi : Option Int) : RpA K G (cutV xs lo hi) (cutD ds lo hi) := by
  unfold cutV cutD
  rw [r.len]
  exact (r.drop _).take _
theorem o_slL : SlD K (rSlL K) gSlL := fun H G x d lo hi z Q xx rx hz k => by
  unfold gSlL at hz
  split at hz
  · cases hz
    obtain ⟨a, xs, rfl, h1, r1⟩ := rx.lst xx
    exact ⟨a, xs, rfl, SqL.of h1, fun p hp => k _ _ ⟨p, _, rfl, hp, rfl, .lst (cut_rp r1 lo hi)⟩⟩
  · cases hz
    obtain ⟨a, xs, rfl, h1, r1⟩ := rx.fzl xx
    exact ⟨a, xs, rfl, h1, fun p hp => k _ _ ⟨p, _, rfl, hp, rfl, .lst (cut_rp r1 lo hi)⟩⟩
  · cases hz
end

/-! ### == and != of what needs no own comparison -/
-- data that the deep comparison is told of
mutual
def pyD : D → Option PyData
  | .non => some .none
  | .bl c => some (.bool c)
  | .int i => some (.int i)
  | .str x => some (.str x)
  | .lst l => (pyDs l).map .list
  | .tup l => (pyDs l).map .tuple
  | .dct _ => none
  | .ins _ _ => none
  | .fzl _ => none
  | .wt _ => none
  | .ty _ => none
  | .cls _ => none
def pyDs : List D → Option (List PyData)
  | [] => some []
  | d :: ds => (pyD d).bind fun p => (pyDs ds).map fun ps => p :: ps
end
section
variable {K : PySem.W.Frag} {H G : Hp}
mutual
theorem pyD_dp (e : Ex G H) : ∀ {v : V} {d : D} {p : PyData}, Rp K G v d → pyD d = some p → Dp K H v p
  | _, _, p, .non, h => by cases h; exact .non
  | _, _, p, .bl c, h => by cases h; exact .bl c
  | _, _, p, .int i, h => by cases h; exact .int i
  | _, _, p, .str x, h => by cases h; exact .str x
  | _, _, p, .dct _ _, h => by unfold pyD at h; cases h
  | _, _, p, .ins _ _, h => by unfold pyD at h; cases h
  | _, _, p, .fzl _ _, h => by unfold pyD at h; cases h
  | _, _, p, .lst (ds := ds) h1 h2, h => by
    unfold pyD at h
    cases q : pyDs ds with
    | none => rw [q] at h; cases h
    | some ps => rw [q] at h; cases h; exact .lst (SqL.of (e _ _ h1)) (pyDs_dp e h2 q)
  | _, _, p, .wt _ _, h => by unfold pyD at h; cases h
  | _, _, p, .ty _, h => by unfold pyD at h; cases h
  | _, _, p, .cls _, h => by unfold pyD at h; cases h
  | _, _, p, .tup (ds := ds) h1 h2, h => by
    unfold pyD at h
    cases q : pyDs ds with
    | none => rw [q] at h; cases h
    | some ps => rw [q] at h; cases h; exact .tup (e.sqt h1.1) (pyDs_dp e h2 q)
theorem pyDs_dp (e : Ex G H) : ∀ {v : List V} {d : List D} {p : List PyData}, RpA K G v d → pyDs d = some p → DpAll K H v p
  | _, _, p, .nil, h => by cases h; exact .nil
  | _, _, p, .cons (d := d) (ds := ds) h1 h2, h => by
    unfold pyDs at h
    cases q : pyD d with
    | none => rw [q] at h; cases h
    | some x =>
      rw [q] at h
      have h' : Option.map (fun ps => x :: ps) (pyDs ds) = some p := h
      cases q2 : pyDs ds with
      | none => rw [q2] at h'; cases h'
      | some ps => rw [q2] at h'; cases h'; exact .cons (pyD_dp e h1 q) (pyDs_dp e h2 q2)
end
theorem rc_dp {v : V} {d : D} {p : PyData} (e : Ex G H) (r : Rc K H G v d) (h : pyD d = some p) : Dp K H v p := by
  rcases r with r | ⟨a, hh, o, rfl, h1, r, rfl⟩
  · exact pyD_dp e r h
  · cases r with
    | lst r =>
      rename_i ds
      have h' : (pyDs ds).map PyData.list = some p := by unfold Own.d pyD at h; exact h
      cases q : pyDs ds with
      | none => rw [q] at h'; cases h'
      | some ps => rw [q] at h'; cases h'; exact .lst (SqL.of h1) (pyDs_dp e r q)
    | dct r => unfold Own.d pyD at h; cases h
    | ins r => unfold Own.d pyD at h; cases h
end
def gEq (neg : Bool) (d e : D) : Option Z := (pyD d).bind fun p => (pyD e).bind fun q => if SeqAt.shaped p = true ∧ SeqAt.shaped q = true then some (.d (.bl (if neg then !PyData.eqv p q else PyData.eqv p q))) else none
section
variable {K : PySem.W.Frag}
theorem gEq_get {neg : Bool} {d e : D} {z : Z} (h : gEq neg d e = some z) : ∃ p q, pyD d = some p ∧ pyD e = some q ∧ SeqAt.shaped p = true ∧ SeqAt.shaped q = true ∧ z = .d (.bl (if neg then !PyData.eqv p q else PyData.eqv p q)) := by
  unfold gEq at h
  cases e1 : pyD d with
  | none => rw [e1] at h; cases h
  | some p =>
    rw [e1] at h
    have h : ((pyD e).bind fun q => if SeqAt.shaped p = true ∧ SeqAt.shaped q = true then some (.d (.bl (if neg then !PyData.eqv p q else PyData.eqv p q))) else none) = some z := h
    cases e2 : pyD e with
    | none => rw [e2] at h; cases h
    | some q =>
      rw [e2] at h
      have h : (if SeqAt.shaped p = true ∧ SeqAt.shaped q = true then some (Z.d (.bl (if neg then !PyData.eqv p q else PyData.eqv p q))) else none) = some z := h
      split at h
      · rename_i hs
        cases h
        exact ⟨p, q, rfl, rfl, hs.1, hs.2, rfl⟩
      · cases h
theorem o_eq : Op2 K (rEqD K) (gEq false) := fun H G x y d e z Q xx rx ry hz k => by
  obtain ⟨p, q, h1, h2, h3, h4, rfl⟩ := gEq_get hz
  exact ⟨p, q, rc_dp xx rx h1, rc_dp xx ry h2, h3, h4, k _ H ⟨rfl, .bl _⟩⟩
theorem o_ne : Op2 K (rNeD K) (gEq true) := fun H G x y d e z Q xx rx ry hz k => by
  obtain ⟨p, q, h1, h2, h3, h4, rfl⟩ := gEq_get hz
  exact ⟨p, q, rc_dp xx rx h1, rc_dp xx ry h2, h3, h4, k _ H ⟨rfl, .bl _⟩⟩
end

/-! ### built-in functions -/
def gAbs : List D → Option Z
  | [.int i] => some (.d (.int (if i < 0 then -i else i)))
  | _ => none
def gIntOf : List D → Option Z
  | [.int i] => some (.d (.int i))
  | [.bl c] => some (.d (.int (if c then 1 else 0)))
  | _ => none
def gLen : List D → Option Z
  | [.str x] => if x.length ≤ sizeLine then some (.d (.int x.length)) else none
  | [.lst l] => some (.d (.int l.length))
  | [.fzl l] => some (.d (.int l.length))
  | [.tup l] => some (.d (.int l.length))
  | _ => none
section
variable {K : PySem.W.Frag}
theorem pr1 {H G : Hp} {xs : List V} {d : D} (h : Paired (Rc K H G) xs [d]) : ∃ x, xs = [x] ∧ Rc K H G x d := by
  cases h with | cons h1 h2 => cases h2; exact ⟨_, rfl, h1⟩
theorem pr2 {H G : Hp} {xs : List V} {d e : D} (h : Paired (Rc K H G) xs [d, e]) : ∃ x y, xs = [x, y] ∧ Rc K H G x d ∧ Rc K H G y e := by
  cases h with | cons h1 h2 => cases h2 with | cons h2 h3 => cases h3; exact ⟨_, _, rfl, h1, h2⟩
theorem b_abs : FnB K (fun xs H Q => ∃ i, xs = [V.int i] ∧ Q (.int (if i < 0 then -i else i)) H) gAbs := fun H G xs ds z Q xx r hz k => by
  unfold gAbs at hz
  split at hz
  · cases hz
    obtain ⟨x, rfl, r'⟩ := pr1 r
    obtain rfl := r'.int
    exact ⟨_, rfl, k _ H ⟨rfl, .int _⟩⟩
  · cases hz
theorem b_int : FnB K (fun xs H Q => (∃ i, xs = [V.int i] ∧ Q (.int i) H) ∨ ∃ k, xs = [V.bl k] ∧ Q (.int (if k then 1 else 0)) H) gIntOf := fun H G xs ds z Q xx r hz k => by
  unfold gIntOf at hz
  split at hz
  · cases hz
    obtain ⟨x, rfl, r'⟩ := pr1 r
    obtain rfl := r'.int
    exact .inl ⟨_, rfl, k _ H ⟨rfl, .int _⟩⟩
  · cases hz
    obtain ⟨x, rfl, r'⟩ := pr1 r
    obtain rfl := r'.bl
    exact .inr ⟨_, rfl, k _ H ⟨rfl, .int _⟩⟩
  · cases hz
theorem b_len : FnB K (fun xs H Q => ∃ x n, xs = [x] ∧ LenV K x H n ∧ Q (.int n) H) gLen := fun H G xs ds z Q xx r hz k => by
  unfold gLen at hz
  split at hz
  · rename_i x
    split at hz
    · rename_i hl
      cases hz
      obtain ⟨v, rfl, r'⟩ := pr1 r
      obtain rfl := r'.str
      exact ⟨_, _, rfl, ⟨hl, rfl⟩, k _ H ⟨rfl, .int _⟩⟩
    · cases hz
  · cases hz
    obtain ⟨v, rfl, r'⟩ := pr1 r
    obtain ⟨a, xs, rfl, h1, r1⟩ := r'.lst xx
    exact ⟨_, _, rfl, .inl ⟨xs, SqL.of h1, r1.len.symm⟩, k _ H ⟨rfl, .int _⟩⟩
  · cases hz
    obtain ⟨v, rfl, r'⟩ := pr1 r
    obtain ⟨a, xs, rfl, h1, r1⟩ := r'.fzl xx
    exact ⟨_, _, rfl, .inl ⟨xs, h1, r1.len.symm⟩, k _ H ⟨rfl, .int _⟩⟩
  · cases hz
    obtain ⟨v, rfl, r'⟩ := pr1 r
    obtain ⟨a, xs, rfl, ⟨h1, _⟩, r1, _⟩ := r'.tup xx
    exact ⟨_, _, rfl, .inr ⟨xs, h1, r1.len.symm⟩, k _ H ⟨rfl, .int _⟩⟩
  · cases hz
end
/-! ### methods of a slot's list -/
def gAppend : List D → List D → Option (List D × D)
  | l, [d] => if l.length < sizeLine then some (l ++ [d], .non) else none
  | _, _ => none
def gPop : List D → List D → Option (List D × D)
  | l, [] => (l[l.length - 1]?).map fun d => (l.dropLast, d)
  | _, _ => none
def gPopAt : List D → List D → Option (List D × D)
  | l, [.int i] => if -(2 ^ 63) ≤ i ∧ i < 2 ^ 63 then (seqIndex? i l.length).bind fun k => (l[k]?).map fun d => (l.eraseIdx k, d) else none
  | _, _ => none
section
variable {K : PySem.W.Frag}
theorem RpA.cut {G : Hp} : ∀ {xs : List V} {ds : List D}, RpA K G xs ds → RpA K G xs.dropLast ds.dropLast
  | _, _, .nil => .nil
  | _, _, .cons h .nil => .nil
  | _, _, .cons h (.cons h2 r) => .cons h (RpA.cut (.cons h2 r))
theorem RpA.erase {G : Hp} : ∀ {xs : List V} {ds : List D} (k : Nat), RpA K G xs ds → RpA K G (xs.eraseIdx k) (ds.eraseIdx k)
  | _, _, _, .nil => .nil
  | _, _, 0, .cons h r => r
  | _, _, k + 1, .cons h r => .cons h (r.erase k)
theorem m_append : MutL K rAppend gAppend := fun H G a xs ys ls ds l' z Q xx ha hg rl rd hz k => by
  unfold gAppend at hz
  split at hz
  · rename_i l d
    split at hz
    · rename_i hl
      cases hz
      cases rd with
      | cons h1 h2 =>
        cases h2
        exact ⟨a, xs, _, rfl, rfl, ha, by rw [rl.len]; exact hl, k .non _ (RpA.snoc h1 rl) .non⟩
    · cases hz
  · cases hz
theorem m_pop : MutL K rPop gPop := fun H G a xs ys ls ds l' z Q xx ha hg rl rd hz k => by
  unfold gPop at hz
  split at hz
  · cases rd
    cases q : ls[ls.length - 1]? with
    | none => rw [q] at hz; cases hz
    | some d =>
      rw [q] at hz
      cases hz
      obtain ⟨v, h1, h2⟩ := rl.at q
      rw [← rl.len] at h1
      exact ⟨a, xs, v, rfl, rfl, ha, h1, k v _ rl.cut h2⟩
  · cases hz
theorem m_popAt : MutL K rPopAt gPopAt := fun H G a xs ys ls ds l' z Q xx ha hg rl rd hz k => by
  unfold gPopAt at hz
  split at hz
  · rename_i i
    split at hz
    · rename_i hi
      cases rd with
      | cons r1 r2 =>
        cases r2
        cases r1
        cases q : seqIndex? i ls.length with
        | none => rw [q] at hz; cases hz
        | some j =>
          rw [q] at hz
          have hz : Option.map (fun d => (ls.eraseIdx j, d)) ls[j]? = some (l', z) := hz
          cases q2 : ls[j]? with
          | none => rw [q2] at hz; cases hz
          | some d =>
            rw [q2] at hz
            cases hz
            obtain ⟨v, h1, h2⟩ := rl.at q2
            exact ⟨a, xs, i, j, v, rfl, rfl, ha, hi.1, hi.2, by rw [rl.len]; exact q, h1, k v _ (rl.erase j) h2⟩
    · cases hz
  · cases hz
end
end DL

set_option Elab.async false
set_option maxRecDepth 100000
set_option maxHeartbeats 4000000
/-! DL9: how readings over data are run. -/
namespace DL
open PySem PySem.Spec PyProof.Rows L2
theorem lk_ite {α : Type} {c : Prop} [Decidable c] {a : α} {k : α → Prop} : lk (if c then some a else none) k = (c ∧ k a) := by
  by_cases h : c
  · rw [if_pos h, lk_some]; exact propext ⟨fun q => ⟨h, q⟩, fun q => q.2⟩
  · rw [if_neg h]; exact propext ⟨fun q => q.elim, fun q => h q.1⟩
theorem lk_map {α β : Type} {f : α → β} {x : Option α} {k : β → Prop} : lk (x.map f) k = lk x fun a => k (f a) := by cases x <;> rfl
theorem lk_bind {α β : Type} {f : α → Option β} {x : Option α} {k : β → Prop} : lk (x.bind f) k = lk x fun a => lk (f a) k := by cases x <;> rfl
theorem gInt_eq {f : Int → Int → Option D} {i j : Int} : gInt f (.int i) (.int j) = (f i j).map .d := rfl
theorem log2_of {a n : Nat} (h : a < 2 ^ n) (hn : 0 < n) : a.log2 < n := by
  by_cases h0 : a = 0
  · subst h0
    have : Nat.log2 0 = 0 := by decide
    omega
  · exact (Nat.log2_lt h0).mpr h
theorem mul_ok {i j : Int} (a b : Nat) (hi : i.natAbs < 2 ^ a) (hj : j.natAbs < 2 ^ b) (h1 : 0 < a) (h2 : 0 < b) (h : a + b < 1000000) : i.natAbs.log2 + j.natAbs.log2 < 1000000 := by
  have h3 := log2_of hi h1
  have h4 := log2_of hj h2
  omega
theorem div_ok {j : Int} (b : Nat) (h0 : 0 < j) (hj : j.natAbs < 2 ^ b) (h1 : 0 < b) (h : b ≤ 9000) : 0 < j ∧ j.natAbs.log2 < 9000 := ⟨h0, by have := log2_of hj h1; omega⟩
end DL

set_option Elab.async false
set_option maxRecDepth 100000
set_option maxHeartbeats 4000000
/-! DL10: tuples times numbers, slices, extend, list(), tuple(), isinstance, is. -/
namespace DL
open PySem PySem.Spec PyProof.Rows L2

/-! ### tuple * int, the other cases -/
theorem tuple_mul1 (l : Addr) (items : Array Value) (n : Nat) (dd : Option Addr) (sl : Array (Option Value)) (x : Int) (u : Tok) (c0 : (decide (x < -(2 ^ 63)) || decide (x ≥ 2 ^ 63)) = false) (c1 : (items.isEmpty || x == 1) = true) :
    Meets (Builtin.«tuple.__mul__» ⟨[.ref l, .int x u], []⟩) (fun _ R s => s.heap.get? l = some { cls := .type "tuple", dict := dd, data := .seq items n, slots := sl } ∧ R (.ok (.ret (Value.ref l))) s) :=
  .of_wp fun prog w A R s h => by
    obtain ⟨hp, g, d, tk, os⟩ := s
    obtain ⟨hl, h⟩ := h
    have f1 := AutoSeq1.idx_int
    wp_walk using wpAny_loadPart' hl
    repeat (first
      | (refine wpAny_ite_false (decide_eq_false (by rw [c0]; exact Bool.false_ne_true)) ?_; wp_walk using wpAny_loadPart' hl)
      | (refine wpAny_ite_true (decide_eq_true c1) ?_; wp_walk using wpAny_loadPart' hl))
    exact ⟨_, rfl, h⟩
theorem tuple_mul0 (l : Addr) (items : Array Value) (n : Nat) (dd : Option Addr) (sl : Array (Option Value)) (x : Int) (u : Tok) (c0 : (decide (x < -(2 ^ 63)) || decide (x ≥ 2 ^ 63)) = false) (c1 : (items.isEmpty || x == 1) = false) (c2 : (decide (x ≤ 0) || items.isEmpty) = true) :
    Meets (Builtin.«tuple.__mul__» ⟨[.ref l, .int x u], []⟩) (fun _ R s => s.heap.get? l = some { cls := .type "tuple", dict := dd, data := .seq items n, slots := sl } ∧ R (.ok (.ret (Value.ref s.heap.objs.size))) { s with heap := s.heap.push { cls := Value.type "tuple", data := Data.seq #[] }, toks := s.toks }) :=
  .of_wp fun prog w A R s h => by
    obtain ⟨hp, g, d, tk, os⟩ := s
    obtain ⟨hl, h⟩ := h
    have f1 := AutoSeq1.idx_int
    wp_walk using wpAny_loadPart' hl
    repeat (first
      | (refine wpAny_ite_false (decide_eq_false (by rw [c0]; exact Bool.false_ne_true)) ?_; wp_walk using wpAny_loadPart' hl)
      | (refine wpAny_ite_false (decide_eq_false (by rw [c1]; exact Bool.false_ne_true)) ?_; wp_walk using wpAny_loadPart' hl)
      | (refine wpAny_ite_true (decide_eq_true c2) ?_; wp_walk using wpAny_loadPart' hl))
    exact ⟨_, rfl, h⟩
def rRepT1 (K : PySem.W.Frag) : R2 := fun x y H Q => ∃ l k xs, x = .ref l ∧ y = .int k ∧ SqT K H l xs ∧ -(2 ^ 63) ≤ k ∧ k < 2 ^ 63 ∧ (xs = [] ∨ k = 1) ∧ Q (.ref l) H
def rRepT0 (K : PySem.W.Frag) : R2 := fun x y H Q => ∃ l k xs, x = .ref l ∧ y = .int k ∧ SqT K H l xs ∧ -(2 ^ 63) ≤ k ∧ k ≤ 0 ∧ xs ≠ [] ∧ NewT H [] Q
section
variable {X : Cx}
theorem op_repT1 : OpR X (binaryOp .Mult) (rRepT1 X.K) := by
  intro pins s σ H x y v u Q I rx ry h
  obtain ⟨l, k, xs, rfl, rfl, hT, h1, h2, hc', q⟩ := h
  cases rx
  obtain ⟨t, rfl⟩ := ry
  obtain ⟨its, r, ⟨⟨cls, dd, data, sl⟩, ho, hc, n, hd⟩, hs⟩ := I.tuple hT
  simp only at hc hd
  subst hc hd
  have c0 : (decide (k < -(2 ^ 63)) || decide (k ≥ 2 ^ 63)) = false := by
    rw [decide_eq_false (by omega), decide_eq_false (by omega)] <;> rfl
  have c1 : (its.toArray.isEmpty || k == 1) = true := by
    rcases hc' with rfl | rfl
    · cases r; rfl
    · simp
  exact wpAny_binaryOp_repeat_ref (T := "tuple") (U := "int") (by decide) ⟨_, ho, rfl⟩ (fun s' => typeIs_int s' k t) noFill_tuple_mul F.fills_int_mul F.slot_int_rmul repeat_tuple F.slot_int_index.lookup
    (call_meets F.slot_int_rmul (typeIs_int s k t) F.entry_int_rmul (F.args_int_rmul_2 _ _) (int_rmul_tuple k t l its.toArray n dd sl)
      ⟨ho, rfl, ⟨_, ho, rfl⟩, call_meets F.slot_tuple_mul ⟨_, ho, rfl⟩ F.entry_tuple_mul (F.args_tuple_mul_2 _ _) (tuple_mul1 l its.toArray n dd sl k t c0 c1) ⟨ho, .ref l, H, I, rfl, q⟩⟩)
theorem op_repT0 : OpR X (binaryOp .Mult) (rRepT0 X.K) := by
  intro pins s σ H x y v u Q I rx ry h
  obtain ⟨l, k, xs, rfl, rfl, hT, h1, h2, hne, q⟩ := h
  cases rx
  obtain ⟨t, rfl⟩ := ry
  obtain ⟨its, r, ⟨⟨cls, dd, data, sl⟩, ho, hc, n, hd⟩, hs⟩ := I.tuple hT
  simp only at hc hd
  subst hc hd
  have c0 : (decide (k < -(2 ^ 63)) || decide (k ≥ 2 ^ 63)) = false := by
    rw [decide_eq_false (by omega), decide_eq_false (by omega)] <;> rfl
  have hi : its.toArray.isEmpty = false := by
    cases r with
    | nil => exact absurd rfl hne
    | cons a b => rfl
  have c1 : (its.toArray.isEmpty || k == 1) = false := by
    rw [hi, Bool.false_or]
    exact beq_eq_false_iff_ne.mpr (by omega)
  have c2 : (decide (k ≤ 0) || its.toArray.isEmpty) = true := by
    rw [decide_eq_true h2]; rfl
  refine wpAny_binaryOp_repeat_ref (T := "tuple") (U := "int") (by decide) ⟨_, ho, rfl⟩ (fun s' => typeIs_int s' k t) noFill_tuple_mul F.fills_int_mul F.slot_int_rmul repeat_tuple F.slot_int_index.lookup
    (call_meets F.slot_int_rmul (typeIs_int s k t) F.entry_int_rmul (F.args_int_rmul_2 _ _) (int_rmul_tuple k t l its.toArray n dd sl)
      ⟨ho, rfl, ⟨_, ho, rfl⟩, call_meets F.slot_tuple_mul ⟨_, ho, rfl⟩ F.entry_tuple_mul (F.args_tuple_mul_2 _ _) (tuple_mul0 l its.toArray n dd sl k t c0 c1 c2) ⟨ho, ?_⟩⟩)
  exact laidT I .nil (Nat.zero_le _) q
def rRepP (K : PySem.W.Frag) : R2 := fun x y H Q => ∃ l k xs, x = .ref l ∧ y = .int k ∧ SqT K H l xs ∧ xs ≠ [] ∧ 2 ≤ k ∧ k ≤ 1000 ∧ xs.length ≤ 1000 ∧ NewT H (List.replicate k.toNat xs).flatten Q
theorem op_repP : OpR X (binaryOp .Mult) (rRepP X.K) := by
  intro pins s σ H x y v u Q I rx ry h
  obtain ⟨l, k, xs, rfl, rfl, hT, hne, h1, h2, hz, q⟩ := h
  cases rx
  obtain ⟨t, rfl⟩ := ry
  obtain ⟨its, r, ⟨⟨cls, dd, data, sl⟩, ho, hc, n, hd⟩, hs⟩ := I.tuple hT
  simp only at hc hd
  subst hc hd
  have hle : its.length = xs.length := r.length.symm
  have hn : its ≠ [] := fun e => hne (by
    rw [e] at hle
    exact List.eq_nil_of_length_eq_zero hle.symm)
  have hi : its.toArray.isEmpty = false := by
    cases its with
    | nil => exact absurd rfl hn
    | cons a b => rfl
  have hsz0 : its.toArray.size = xs.length := by rw [List.size_toArray, hle]
  have hm : ((its.toArray.size : Nat) : Int) * k ≤ 1000000 := by
    rw [hsz0]
    have a1 : ((xs.length : Nat) : Int) * k ≤ 1000 * k := Int.mul_le_mul_of_nonneg_right (by omega) (by omega)
    omega
  have flen : (List.replicate k.toNat xs).flatten.length ≤ sizeLine := by
    rw [PyProof.Rows.lm_len_rep_flat, sizeLine_eq]
    have a1 : k.toNat * xs.length ≤ 1000 * 1000 := Nat.mul_le_mul (by omega) hz
    omega
  have c0 : (decide (k < -(2 ^ 63)) || decide (k ≥ 2 ^ 63)) = false := by
    rw [decide_eq_false (by omega), decide_eq_false (by omega)] <;> rfl
  have c1 : (its.toArray.isEmpty || k == 1) = false := by
    rw [hi, Bool.false_or]
    exact beq_eq_false_iff_ne.mpr (by omega)
  have c2 : (decide (k ≤ 0) || its.toArray.isEmpty) = false := by
    rw [hi, Bool.or_false]
    exact decide_eq_false (by omega)
  have c4 : Builtin.Tuple.tupleTooMany (((its.toArray.size : Nat) : Int) * k) = false := by
    unfold Builtin.Tuple.tupleTooMany
    rw [sizeLine_eq]
    exact decide_eq_false (by omega)
  have rr := r.rep k.toNat
  refine wpAny_binaryOp_repeat_ref (T := "tuple") (U := "int") (by decide) ⟨_, ho, rfl⟩ (fun s' => typeIs_int s' k t) noFill_tuple_mul F.fills_int_mul F.slot_int_rmul repeat_tuple F.slot_int_index.lookup
    (call_meets F.slot_int_rmul (typeIs_int s k t) F.entry_int_rmul (F.args_int_rmul_2 _ _) (int_rmul_tuple k t l its.toArray n dd sl)
      ⟨ho, rfl, ⟨_, ho, rfl⟩, call_meets F.slot_tuple_mul ⟨_, ho, rfl⟩ F.entry_tuple_mul (F.args_tuple_mul_2 _ _) (tuple_mulW l its.toArray n dd sl k t c0 c1 c2 (by omega) c4 (by rw [size_rep, List.size_toArray, ← rr.length]; exact flen)) ⟨ho, ?_⟩⟩)
  rw [size_rep]
  exact laidT I rr flen q
end
theorem RpA.rep {K : PySem.W.Frag} {G : Hp} {xs : List V} {ds : List D} (r : RpA K G xs ds) : ∀ n : Nat, RpA K G (List.replicate n xs).flatten (List.replicate n ds).flatten
  | 0 => .nil
  | n + 1 => by
    rw [List.replicate_succ, List.replicate_succ, List.flatten_cons, List.flatten_cons]
    exact r.app (r.rep n)
def gMul : D → D → Option Z
  | .int i, .int j => (fMul i j).map .d
  | .lst l, .int k => if -(2 ^ 63) ≤ k ∧ k < 2 ^ 63 ∧ l.length * k.toNat ≤ sizeLine then some (.n (.lst (List.replicate k.toNat l).flatten)) else none
  | .tup l, .int k => if -(2 ^ 63) ≤ k ∧ k ≤ 1000 ∧ l.length ≤ 1000 then some (.t (List.replicate k.toNat l).flatten) else none
  | _, _ => none
def rMulA (K : PySem.W.Frag) : R2 := fun x y H Q => ((((rI CMulW fun i j => .int (i * j)) x y H Q ∨ rRep x y H Q) ∨ rRepP K x y H Q) ∨ rRepT1 K x y H Q) ∨ rRepT0 K x y H Q
theorem op_mulA {X : Cx} : OpR X (binaryOp .Mult) (rMulA X.K) := (((op_mulW.or op_rep).or op_repP).or op_repT1).or op_repT0
theorem o_mulA {K : PySem.W.Frag} : Op2 K (rMulA K) gMul := fun H G x y d e z Q xx rx ry hz k => by
  unfold gMul at hz
  split at hz
  · rename_i i j
    exact .inl (.inl (.inl (.inl (o_mul H G x y _ _ z Q xx rx ry hz k))))
  · split at hz
    · rename_i l i hle
      cases hz
      obtain ⟨a, xs, rfl, h1, r1⟩ := rx.lst xx
      obtain rfl := ry.int
      exact .inl (.inl (.inl (.inr ⟨a, i, xs, rfl, rfl, h1, hle.1, hle.2.1, by rw [r1.len]; exact hle.2.2, fun p hp => k _ _ ⟨p, _, rfl, hp, rfl, .lst (r1.rep _)⟩⟩)))
    · cases hz
  · split at hz
    · rename_i l i hle
      cases hz
      obtain ⟨a, xs, rfl, ⟨h1, _⟩, r1, p1⟩ := rx.tup xx
      obtain rfl := ry.int
      by_cases c1 : xs = []
      · refine .inl (.inr ⟨a, i, xs, rfl, rfl, h1, hle.1, by omega, .inl c1, k _ _ (.inr ⟨rfl, ?_⟩)⟩)
        subst c1
        cases r1
        have e0 : (List.replicate i.toNat ([] : List D)).flatten = [] := by simp
        rw [e0]; exact p1
      · by_cases c2 : i = 1
        · refine .inl (.inr ⟨a, i, xs, rfl, rfl, h1, hle.1, by omega, .inr c2, k _ _ (.inr ⟨rfl, ?_⟩)⟩)
          subst c2
          have e0 : (List.replicate (1 : Int).toNat l).flatten = l := by simp
          rw [e0]; exact p1
        · by_cases c3 : i ≤ 0
          · refine .inr ⟨a, i, xs, rfl, rfl, h1, hle.1, c3, c1, fun p o ho hp => k _ _ (.inl ⟨p, o, _, rfl, ho, hp, rfl, ?_⟩)⟩
            have e0 : i.toNat = 0 := by omega
            rw [e0]; exact .nil
          · exact .inl (.inl (.inr ⟨a, i, xs, rfl, rfl, h1, c1, by omega, hle.2.1, by rw [r1.len]; exact hle.2.2, fun p o ho hp => k _ _ (.inl ⟨p, o, _, rfl, ho, hp, rfl, r1.rep _⟩)⟩))
    · cases hz
  · cases hz

/-! ### slices of lists, tuples, texts -/
def gSl : D → Option Int → Option Int → Option Z
  | .lst l, lo, hi => some (.n (.lst (cutD l lo hi)))
  | .fzl l, lo, hi => some (.n (.lst (cutD l lo hi)))
  | .tup l, lo, hi => some (.t (cutD l lo hi))
  | .str x, lo, hi => if x.length ≤ sizeLine then some (.d (.str (cutS x lo hi))) else none
  | _, _, _ => none
/-- t[lo:hi]: the whole of it is t itself -/
def rSlP (K : PySem.W.Frag) : V → Option Int → Option Int → Hp → VK → Prop := fun x lo hi H Q => ∃ a xs, x = .ref a ∧ SqT K H a xs ∧
  (HT.sIx xs.length 0 lo = 0 ∧ HT.sIx xs.length xs.length hi = xs.length → Q (.ref a) H) ∧ (¬ (HT.sIx xs.length 0 lo = 0 ∧ HT.sIx xs.length xs.length hi = xs.length) → NewT H (cutV xs lo hi) Q)
theorem sl_tupP {X : Cx} : SlR X (rSlP X.K) := by
  intro pins s σ H x v vl vu lo hi sl Q I rx hs pl pu h
  obtain ⟨a, xs, rfl, hx, q1, q2⟩ := h
  cases rx
  obtain ⟨its, r, ht, hz⟩ := I.tuple hx
  have hlen : its.toArray.size = xs.length := by rw [List.size_toArray]; exact r.length.symm
  refine ⟨"tuple", _, PyProof.Rows.slot_tuple_getitem.lookup, ht.typeIs, ?_⟩
  by_cases hw : HT.sIx xs.length 0 lo = 0 ∧ HT.sIx xs.length xs.length hi = xs.length
  · exact getItem_tuple_whole ht hs pl pu (by rw [hlen]; exact hw) ⟨.ref a, H, I, rfl, q1 hw⟩
  · refine HT.getItem_tuple_cut ht hs pl pu (by rw [hlen]; exact hw) ?_ (by rw [hlen]; exact hz)
    rw [hlen]
    exact laidT I ((r.drop (HT.sIx xs.length 0 lo)).take (HT.sIx xs.length xs.length hi - HT.sIx xs.length 0 lo)) (Nat.le_trans (cutV_length xs lo hi) hz) (q2 hw)
def rSlAny (K : PySem.W.Frag) : V → Option Int → Option Int → Hp → VK → Prop := fun x lo hi H Q => (rSlL K x lo hi H Q ∨ rSlP K x lo hi H Q) ∨ rSlS x lo hi H Q
theorem sl_any {X : Cx} : SlR X (rSlAny X.K) := (sl_list.or sl_tupP).or sl_str
theorem cutD_whole {l : List D} {lo hi : Option Int} (h : HT.sIx l.length 0 lo = 0 ∧ HT.sIx l.length l.length hi = l.length) : cutD l lo hi = l := by
  unfold cutD
  rw [h.1, h.2, List.drop_zero, Nat.sub_zero, List.take_length]
theorem o_sl {K : PySem.W.Frag} : SlD K (rSlAny K) gSl := fun H G x d lo hi z Q xx rx hz k => by
  unfold gSl at hz
  split at hz
  · exact .inl (.inl (o_slL H G x _ _ _ z Q xx rx hz k))
  · exact .inl (.inl (o_slL H G x _ _ _ z Q xx rx hz k))
  · cases hz
    obtain ⟨a, xs, rfl, h1, r1, p1⟩ := rx.tup xx
    refine .inl (.inr ⟨a, xs, rfl, h1.1, fun e => k _ _ (.inr ⟨rfl, ?_⟩), fun _ p o ho hp => k _ _ (.inl ⟨p, o, _, rfl, ho, hp, rfl, cut_rp r1 _ _⟩)⟩)
    rw [r1.len] at e
    rw [cutD_whole e]; exact p1
  · split at hz
    · rename_i hl
      cases hz
      obtain rfl := rx.str
      exact .inr ⟨_, rfl, hl, k _ H ⟨rfl, .str _⟩⟩
    · cases hz
  · cases hz

/-! ### xs.extend(ys) -/
theorem list_extend_tup (l : Addr) (items : Array Value) (n : Nat) (b : Addr) (items2 : Array Value) (n2 : Nat) (dd : Option Addr) (sl : Array (Option Value)) (hs0 : ¬(!items.isEmpty && Builtin.List.listTooLong (items.size + items2.size)) = true) (hs1 : items.size ≤ sizeLine) (hs2 : items.size + items2.size ≤ sizeLine + 1) :
    Meets (Builtin.«list.extend» ⟨[.ref l, .ref b], []⟩) (fun _ R s => s.heap.get? l = some { cls := .type "list", dict := none, data := .seq items n, slots := #[] } ∧ s.heap.get? b = some { cls := .type "tuple", dict := dd, data := .seq items2 n2, slots := sl } ∧ R (.ok (.ret Value.none)) { s with heap := s.heap.update l (Obj.mapSeq fun x => x ++ items2), toks := s.toks }) :=
  .of_wp fun prog w A R s h => by
    obtain ⟨hp, g, d, tk, os⟩ := s; obtain ⟨hl, hb, h⟩ := h; have f1 := AutoSeq1.idx_int; have f2 := AutoSeq1.sub_tuple_tuple; have f3 := AutoSeq1.sub_list_list; have f4 := AutoSeq1.sub_tuple_list; have f5 := AutoSeq1.sub_list_tuple;
    have hz' : (items ++ items2).size ≤ sizeLine + 1 := by rw [Array.size_append]; exact hs2
    wp_walk using (wpAny_updateSeq hl rfl (hz := hs1) (_hz' := hz')), wpAny_loadPart' hl, wpAny_loadPart' hb; exact ⟨_, rfl, h⟩
def rExtT (K : PySem.W.Frag) : V → List V → Hp → VK → Prop := fun x vs H Q => ∃ l b xs zs, x = .ref l ∧ vs = [.ref b] ∧ H l = some (.lst xs) ∧ SqT K H b zs ∧ xs.length + zs.length ≤ sizeLine ∧ Q .non (upd H l (.lst (xs ++ zs)))
theorem mt_extT {X : Cx} : MtR X "list.extend" (rExtT X.K) := by
  intro pins s σ H x vs v us Q I rx rv h
  obtain ⟨l, b, xs, zs, rfl, rfl, hH, hB, hz, q⟩ := h
  cases rx
  obtain ⟨u, rfl, ru⟩ := rv.one
  cases ru
  obtain ⟨z, its, n, r, hl, e⟩ := I.lstM hH
  obtain ⟨its2, r2, ⟨⟨cls, dd, data, sl⟩, ho, hc, n2, hd⟩, hs⟩ := I.tuple hB
  simp only at hc hd
  subst hc hd
  have hl2 := r2.length
  have hsz : its.toArray.size + its2.toArray.size ≤ sizeLine := by rw [List.size_toArray, List.size_toArray]; omega
  have hlong : ¬ (!its.toArray.isEmpty && Builtin.List.listTooLong (its.toArray.size + its2.toArray.size)) = true := by
    rw [notLongL hsz, Bool.and_false]
    exact Bool.false_ne_true
  refine call_meets F.slot_list_extend ⟨_, e, rfl⟩ F.entry_list_extend (F.args_list_extend_2 _ _)
    (list_extend_tup l its.toArray n b its2.toArray n2 dd sl hlong (by rw [List.size_toArray]; omega) (by omega)) ⟨e, ho, ?_⟩
  refine ⟨.non, _, I.lset (its' := its ++ its2) hH e (by simp) (r.append r2) ?_, rfl, q⟩
  rw [List.length_append]
  omega
def gExtend : List D → List D → Option (List D × D)
  | l, [.tup m] => if l.length + m.length ≤ sizeLine then some (l ++ m, .non) else none
  | l, [.lst m] => if l.length + m.length ≤ sizeLine then some (l ++ m, .non) else none
  | _, _ => none
def rExtA (K : PySem.W.Frag) : V → List V → Hp → VK → Prop := fun x xs H Q => rExtend x xs H Q ∨ rExtT K x xs H Q
theorem mt_extA {X : Cx} : MtR X "list.extend" (rExtA X.K) := MtR.or (show MtR X "list.extend" rExtend from mt_extend) mt_extT
theorem m_extend {K : PySem.W.Frag} : MutL K (rExtA K) gExtend := fun H G a xs ys ls ds l' z Q xx ha hg rl rd hz k => by
  unfold gExtend at hz
  split at hz
  · rename_i l m
    split at hz
    · rename_i hl
      cases hz
      cases rd with
      | cons h1 h2 =>
        cases h2
        cases h1 with
        | tup p1 p2 => exact .inr ⟨a, _, xs, _, rfl, rfl, ha, xx.sqt p1.1, by rw [rl.len, p2.len]; exact hl, k .non _ (rl.app p2) .non⟩
    · cases hz
  · rename_i l m
    split at hz
    · rename_i hl
      cases hz
      cases rd with
      | cons h1 h2 =>
        cases h2
        cases h1 with
        | lst p1 p2 => exact .inl ⟨a, _, xs, _, rfl, rfl, ha, xx _ _ p1, by rw [rl.len, p2.len]; exact hl, k .non _ (rl.app p2) .non⟩
    · cases hz
  · cases hz

/-! ### list(x), tuple(x) -/
def gListOf : List D → Option Z
  | [.lst l] => some (.n (.lst l))
  | [.fzl l] => some (.n (.lst l))
  | [.tup l] => some (.n (.lst l))
  | _ => none
def rListOf (K : PySem.W.Frag) : List V → Hp → VK → Prop := fun xs H Q => ∃ p ys, xs = [.ref p] ∧ (SqL K H p ys ∨ SqT K H p ys) ∧ ∀ l, H l = none → Q (.ref l) (upd H l (.lst ys))
theorem b_listOf {K : PySem.W.Frag} : FnB K (rListOf K) gListOf := fun H G xs ds z Q xx r hz k => by
  unfold gListOf at hz
  split at hz
  · cases hz
    obtain ⟨v, rfl, r'⟩ := pr1 r
    obtain ⟨a, xs, rfl, h1, r1⟩ := r'.lst xx
    exact ⟨_, _, rfl, .inl (SqL.of h1), fun p hp => k _ _ ⟨p, _, rfl, hp, rfl, .lst r1⟩⟩
  · cases hz
    obtain ⟨v, rfl, r'⟩ := pr1 r
    obtain ⟨a, xs, rfl, h1, r1⟩ := r'.fzl xx
    exact ⟨_, _, rfl, .inl h1, fun p hp => k _ _ ⟨p, _, rfl, hp, rfl, .lst r1⟩⟩
  · cases hz
    obtain ⟨v, rfl, r'⟩ := pr1 r
    obtain ⟨a, xs, rfl, h1, r1, _⟩ := r'.tup xx
    exact ⟨_, _, rfl, .inr h1.1, fun p hp => k _ _ ⟨p, _, rfl, hp, rfl, .lst r1⟩⟩
  · cases hz
def rTupOf (K : PySem.W.Frag) : List V → Hp → VK → Prop := fun xs H Q => ∃ p ys, xs = [.ref p] ∧ ((SqL K H p ys ∧ NewT H ys Q) ∨ (SqT K H p ys ∧ Q (.ref p) H))
theorem call_tupP {X : Cx} : CallR X (.type "tuple") (rTupOf X.K) := by
  intro pins s σ H xs us Q I r h
  obtain ⟨p, ys, rfl, h⟩ := h
  obtain ⟨u, rfl, rx⟩ := vals1 r
  cases rx
  rcases h with ⟨hq, q⟩ | ⟨hq, q⟩
  · obtain ⟨its, r', pl, hz⟩ := I.list hq
    have hlen := r'.length
    refine call_tuple_list pl.isList (fun h' kp => ?_) (by simp only [List.size_toArray] <;> omega)
    have I1 : Inv X pins σ H { s with heap := h' } := I.kept (t' := s.toks) kp
    exact laidT I1 r' hz q
  · obtain ⟨its, r', pl, hz⟩ := I.tuple hq
    exact call_tuple_same pl ⟨.ref p, H, I, rfl, q⟩
def gTupOf : List D → Option Z
  | [.lst l] => some (.t l)
  | [.fzl l] => some (.t l)
  | [.tup l] => some (.t l)
  | _ => none
theorem b_tupOf {K : PySem.W.Frag} : FnB K (rTupOf K) gTupOf := fun H G xs ds z Q xx r hz k => by
  unfold gTupOf at hz
  split at hz
  · cases hz
    obtain ⟨v, rfl, r'⟩ := pr1 r
    obtain ⟨a, xs, rfl, h1, r1⟩ := r'.lst xx
    exact ⟨_, _, rfl, .inl ⟨SqL.of h1, fun p o ho hp => k _ _ (.inl ⟨p, o, _, rfl, ho, hp, rfl, r1⟩)⟩⟩
  · cases hz
    obtain ⟨v, rfl, r'⟩ := pr1 r
    obtain ⟨a, xs, rfl, h1, r1⟩ := r'.fzl xx
    exact ⟨_, _, rfl, .inl ⟨h1, fun p o ho hp => k _ _ (.inl ⟨p, o, _, rfl, ho, hp, rfl, r1⟩)⟩⟩
  · cases hz
    obtain ⟨v, rfl, r'⟩ := pr1 r
    obtain ⟨a, xs, rfl, h1, r1, p1⟩ := r'.tup xx
    exact ⟨_, _, rfl, .inr ⟨h1.1, k _ _ (.inr ⟨rfl, p1⟩)⟩⟩
  · cases hz
end DL

set_option Elab.async false
set_option maxRecDepth 100000
set_option maxHeartbeats 4000000
/-! DL11: ==, in, is, isinstance, dict(pairs).get, repr. -/
namespace DL
open PySem PySem.Spec PyProof.Rows L2

/-! ### == and != -/
theorem fin_b {X : Cx} {pins : List (Addr × Obj)} {σ : L2.St} {H : Hp} {s : Shared} {Q : VK} {c : Bool} (I : Inv X pins σ H s) (q : Q (.bl c) H) : EP X pins σ Q (.bool c) s := ⟨.bl c, H, I, rfl, q⟩
/-- lists of other lengths, empty tuples: what the items are is not asked -/
def quick : D → D → Option Bool
  | .lst l, .lst m => if l.length = m.length then none else some false
  | .tup l, .tup m => if l = [] ∨ m = [] then some (l.length == m.length) else none
  | .str x, .str y => some (x == y)
  | _, _ => none
def rQuick (K : PySem.W.Frag) (neg : Bool) : R2 := fun x y H Q => (∃ i j, x = .str i ∧ y = .str j ∧ Q (.bl (neg != (i == j))) H) ∨ ∃ a b xs ys, x = .ref a ∧ y = .ref b ∧
  ((SqL K H a xs ∧ SqL K H b ys ∧ xs.length ≠ ys.length ∧ Q (.bl (neg != false)) H) ∨ (SqT K H a xs ∧ SqT K H b ys ∧ (xs = [] ∨ ys = []) ∧ Q (.bl (neg != (xs.length == ys.length))) H))
theorem min_zero {a b : Nat} (h : a = 0 ∨ b = 0) : min a b = 0 := by omega
section
variable {X : Cx}
theorem op_eqQ (hu : X.A.units < cLine) : OpR X (compareOp .Eq) (rQuick X.K false) := by
  intro pins s σ H x y v u Q I rx ry h
  rcases h with ⟨i, j, rfl, rfl, q⟩ | h
  · obtain ⟨t, rfl⟩ := rx
    obtain ⟨t', rfl⟩ := ry
    have e0 : ∀ c : Bool, (false != c) = c := fun c => by cases c <;> rfl
    rw [e0] at q
    exact SeqAt.RcAt.str_str i t j t' X.prog X.w X.xe _ (fin_b I q)
  obtain ⟨a, b, xs, ys, rfl, rfl, h⟩ := h
  cases rx
  cases ry
  rcases h with ⟨h1, h2, hn, q⟩ | ⟨h1, h2, hn, q⟩
  · obtain ⟨its, r1, p1, _⟩ := I.list h1
    obtain ⟨its2, r2, p2, _⟩ := I.list h2
    refine SeqAt.eq_list_lengthsAt p1.isList p2.isList ?_ hu (fin_b I q)
    have e1 := r1.length
    have e2 := r2.length
    rw [List.size_toArray, List.size_toArray]
    exact bne_iff_ne.mpr (by omega)
  · obtain ⟨its, r1, p1, _⟩ := I.tuple h1
    obtain ⟨its2, r2, p2, _⟩ := I.tuple h2
    have e1 := r1.length
    have e2 := r2.length
    have h0 : its.toArray.size = 0 ∨ its2.toArray.size = 0 := by
      rw [List.size_toArray, List.size_toArray]
      rcases hn with rfl | rfl
      · exact .inl e1.symm
      · exact .inr e2.symm
    refine SeqAt.eq_tupleAt (e := fun _ => true) p1 p2 hu (fun j j1 j2 => by omega) ?_
    have : ((List.range (min its.toArray.size its2.toArray.size)).all (fun _ => true) && its.toArray.size == its2.toArray.size) = (xs.length == ys.length) := by
      rw [min_zero h0, List.size_toArray, List.size_toArray, e1, e2]; rfl
    rw [this]
    have q' : Q (.bl (xs.length == ys.length)) H := by
      have e0 : ∀ c : Bool, (false != c) = c := fun c => by cases c <;> rfl
      rw [e0] at q; exact q
    exact fin_b I q'
theorem rc_ne_op {A : Around} {s : Shared} {a b : Value} {c : Bool} (h : SeqAt.RcNeAt A s a b c) {prog : Program} {w : World} {E : Value → Shared → Prop} {Q : Value → Shared → Prop} (q : Q (.bool c) s) : wpAny (model prog w) A (compareOp .NotEq a b) Q E s := h prog w E Q q
theorem op_neQ (hu : X.A.units < cLine) : OpR X (compareOp .NotEq) (rQuick X.K true) := by
  intro pins s σ H x y v u Q I rx ry h
  rcases h with ⟨i, j, rfl, rfl, q⟩ | h
  · obtain ⟨t, rfl⟩ := rx
    obtain ⟨t', rfl⟩ := ry
    have e0 : ∀ c : Bool, (true != c) = !c := fun c => by cases c <;> rfl
    rw [e0] at q
    exact rc_ne_op (SeqAt.RcNeAt.str_str i t j t') (fin_b I q)
  obtain ⟨a, b, xs, ys, rfl, rfl, h⟩ := h
  cases rx
  cases ry
  rcases h with ⟨h1, h2, hn, q⟩ | ⟨h1, h2, hn, q⟩
  · obtain ⟨its, r1, p1, _⟩ := I.list h1
    obtain ⟨its2, r2, p2, _⟩ := I.list h2
    refine rc_ne_op (SeqAt.RcNeAt.lists_lengths p1.isList p2.isList ?_ hu) (fin_b I q)
    have e1 := r1.length
    have e2 := r2.length
    rw [List.size_toArray, List.size_toArray]
    exact bne_iff_ne.mpr (by omega)
  · obtain ⟨its, r1, p1, _⟩ := I.tuple h1
    obtain ⟨its2, r2, p2, _⟩ := I.tuple h2
    have e1 := r1.length
    have e2 := r2.length
    have h0 : its.toArray.size = 0 ∨ its2.toArray.size = 0 := by
      rw [List.size_toArray, List.size_toArray]
      rcases hn with rfl | rfl
      · exact .inl e1.symm
      · exact .inr e2.symm
    refine rc_ne_op (SeqAt.RcNeAt.tuples (e := fun _ => true) p1 p2 hu (fun j j1 j2 => by omega)) ?_
    have : (!((List.range (min its.toArray.size its2.toArray.size)).all (fun _ => true) && its.toArray.size == its2.toArray.size)) = (true != (xs.length == ys.length)) := by
      rw [min_zero h0, List.size_toArray, List.size_toArray, e1, e2]
      show (!(true && _)) = _
      generalize (its.length == its2.length) = c
      cases c <;> rfl
    rw [this]
    exact fin_b I q
/-- data of any depth, the one of them flat enough -/
def rEqP (K : PySem.W.Frag) (neg : Bool) : R2 := fun x y H Q => ∃ d e, Dp K H x d ∧ Dp K H y e ∧ d.canLay0 = true ∧ e.canLay0 = true ∧ min d.depth e.depth ≤ 64 ∧ Q (.bl (neg != PyData.eqv d e)) H
theorem op_eqP (hu : X.A.units + 64 < cLine) : OpR X (compareOp .Eq) (rEqP X.K false) := by
  intro pins s σ H x y v u Q I rx ry h
  obtain ⟨d, e, hd, he, sd, se, hm, q⟩ := h
  obtain ⟨as, r1⟩ := Dp.reads I d x v hd rx
  obtain ⟨bs, r2⟩ := Dp.reads I e y u he ry
  have e0 : ∀ c : Bool, (false != c) = c := fun c => by cases c <;> rfl
  rw [e0] at q
  exact SeqAt.compareEq_reads r1 r2 sd se (by omega) (fin_b I q)
theorem op_neP (hu : X.A.units + 64 < cLine) : OpR X (compareOp .NotEq) (rEqP X.K true) := by
  intro pins s σ H x y v u Q I rx ry h
  obtain ⟨d, e, hd, he, sd, se, hm, q⟩ := h
  obtain ⟨as, r1⟩ := Dp.reads I d x v hd rx
  obtain ⟨bs, r2⟩ := Dp.reads I e y u he ry
  have e0 : ∀ c : Bool, (true != c) = !c := fun c => by cases c <;> rfl
  rw [e0] at q
  exact SeqAt.compareNe_reads r1 r2 sd se (by omega) (fin_b I q)
def rEqA (K : PySem.W.Frag) (neg : Bool) : R2 := fun x y H Q => rQuick K neg x y H Q ∨ rEqP K neg x y H Q
theorem op_eqA (hu : X.A.units + 64 < cLine) : OpR X (compareOp .Eq) (rEqA X.K false) := (op_eqQ (by omega)).or (op_eqP hu)
theorem op_neA (hu : X.A.units + 64 < cLine) : OpR X (compareOp .NotEq) (rEqA X.K true) := (op_neQ (by omega)).or (op_neP hu)
end
def deepEq (d e : D) : Option Bool := (pyD d).bind fun p => (pyD e).bind fun q => if p.canLay0 = true ∧ q.canLay0 = true ∧ min p.depth q.depth ≤ 64 then some (PyData.eqv p q) else none
def gEqB (d e : D) : Option Bool := match quick d e with
  | some c => some c
  | none => deepEq d e
def gEqA (neg : Bool) (d e : D) : Option Z := (gEqB d e).map fun c => .d (.bl (neg != c))
theorem deepEq_get {d e : D} {c : Bool} (h : deepEq d e = some c) : ∃ p q, pyD d = some p ∧ pyD e = some q ∧ p.canLay0 = true ∧ q.canLay0 = true ∧ min p.depth q.depth ≤ 64 ∧ c = PyData.eqv p q := by
  unfold deepEq at h
  cases e1 : pyD d with
  | none => rw [e1] at h; cases h
  | some p =>
    rw [e1] at h
    have h : ((pyD e).bind fun q => if p.canLay0 = true ∧ q.canLay0 = true ∧ min p.depth q.depth ≤ 64 then some (PyData.eqv p q) else none) = some c := h
    cases e2 : pyD e with
    | none => rw [e2] at h; cases h
    | some q =>
      rw [e2] at h
      have h : (if p.canLay0 = true ∧ q.canLay0 = true ∧ min p.depth q.depth ≤ 64 then some (PyData.eqv p q) else none) = some c := h
      split at h
      · rename_i hs
        cases h
        exact ⟨p, q, rfl, rfl, hs.1, hs.2.1, hs.2.2, rfl⟩
      · cases h
theorem o_eqA {K : PySem.W.Frag} {neg : Bool} : Op2 K (rEqA K neg) (gEqA neg) := fun H G x y d e z Q xx rx ry hz k => by
  unfold gEqA gEqB at hz
  cases hq : quick d e with
  | none =>
    rw [hq] at hz
    dsimp only at hz
    cases hd : deepEq d e with
    | none => rw [hd] at hz; cases hz
    | some c =>
      rw [hd] at hz
      cases hz
      obtain ⟨p, q, h1, h2, h3, h4, h5, rfl⟩ := deepEq_get hd
      exact .inr ⟨p, q, rc_dp xx rx h1, rc_dp xx ry h2, h3, h4, h5, k _ H ⟨rfl, .bl _⟩⟩
  | some c =>
    rw [hq] at hz
    cases hz
    unfold quick at hq
    split at hq
    · split at hq
      · cases hq
      · rename_i l m hlm
        cases hq
        obtain ⟨a, xs, rfl, h1, r1⟩ := rx.lst xx
        obtain ⟨b, ys, rfl, h2, r2⟩ := ry.lst xx
        exact .inl (.inr ⟨a, b, xs, ys, rfl, rfl, .inl ⟨SqL.of h1, SqL.of h2, by rw [r1.len, r2.len]; exact hlm, k _ H ⟨rfl, .bl _⟩⟩⟩)
    · split at hq
      · rename_i l m hlm
        cases hq
        obtain ⟨a, xs, rfl, ⟨h1, _⟩, r1, _⟩ := rx.tup xx
        obtain ⟨b, ys, rfl, ⟨h2, _⟩, r2, _⟩ := ry.tup xx
        refine .inl (.inr ⟨a, b, xs, ys, rfl, rfl, .inr ⟨h1, h2, ?_, ?_⟩⟩)
        · rcases hlm with rfl | rfl
          · cases r1; exact .inl rfl
          · cases r2; exact .inr rfl
        · rw [r1.len, r2.len]; exact k _ H ⟨rfl, .bl _⟩
      · cases hq
    · cases hq
      obtain rfl := rx.str
      obtain rfl := ry.str
      exact .inl (.inl ⟨_, _, rfl, rfl, k _ H ⟨rfl, .bl _⟩⟩)
    · cases hq

/-! ### in, not in: a list or tuple of data, a text in a text -/
def rInP (K : PySem.W.Frag) (neg : Bool) : R2 := fun x y H Q => ∃ a xs d es, y = .ref a ∧ (SqL K H a xs ∨ SqT K H a xs) ∧ Dp K H x d ∧ DpAll K H xs es ∧ d.canLay0 = true ∧ d.depth ≤ 64 ∧ PyData.canLayAll0 es = true ∧ Q (.bl (neg != es.any fun e => PyData.eqv e d)) H
/-- the item y, read, is as d -/
noncomputable def hitR (h : Heap) (d : PyData) (y : Value) : Bool := @decide (∃ p as, Reads h y p as ∧ PyData.eqv p d = true) (Classical.propDecidable _)
theorem hitR_eq {h : Heap} {d p : PyData} {y : Value} {as : List Addr} (r : Reads h y p as) : hitR h d y = PyData.eqv p d := by
  unfold hitR
  cases q : PyData.eqv p d with
  | true => exact @decide_eq_true _ (Classical.propDecidable _) ⟨p, as, r, q⟩
  | false =>
    refine @decide_eq_false _ (Classical.propDecidable _) fun z => ?_
    obtain ⟨p', as', r', q'⟩ := z
    have := (Reads.unique r p' as' r').1
    subst this
    rw [q] at q'; cases q'
theorem hit_any {h : Heap} {d : PyData} : ∀ {vs : List Value} {es : List PyData} {as : List Addr}, ReadsAll h vs es as → vs.any (hitR h d) = es.any fun e => PyData.eqv e d
  | _, _, _, .nil => rfl
  | _, _, _, .cons r rs => by rw [List.any_cons, List.any_cons, hitR_eq r, hit_any rs]
theorem hit_at {A : Around} {s : Shared} {d : PyData} {x : Value} {bs : List Addr} (rx : Reads s.heap x d bs) (hd : d.canLay0 = true) (hz : A.units + d.depth < cLine) : ∀ {vs : List Value} {es : List PyData} {as : List Addr}, ReadsAll s.heap vs es as → PyData.canLayAll0 es = true → ∀ y ∈ vs, SeqAt.EqAt A s y x (hitR s.heap d y)
  | _, _, _, .nil, _, y, h => by cases h
  | _, _, _, .cons (d := e) (ds := es) r rs, hc, y, h => by
    have hc' : (e.canLay0 && PyData.canLayAll0 es) = true := by unfold PyData.canLayAll0 at hc; exact hc
    rw [Bool.and_eq_true] at hc'
    rcases List.mem_cons.mp h with rfl | h
    · rw [hitR_eq r]
      exact SeqAt.eqAt_reads _ _ A s _ _ _ _ r rx hc'.1 hd (by omega)
    · exact hit_at rx hd hz rs hc'.2 y h
section
variable {X : Cx}
theorem op_inP (hu : X.A.units + 66 < cLine) : OpR X (compareOp .In) (rInP X.K false) := by
  intro pins s σ H x y v u Q I rx ry h
  obtain ⟨a, xs, d, es, rfl, hq, hd, he, c1, c2, c3, q⟩ := h
  cases ry
  obtain ⟨bs, r1⟩ := Dp.reads I d x v hd rx
  have e0 : ∀ c : Bool, (false != c) = c := fun c => by cases c <;> rfl
  rw [e0] at q
  have hz : X.A.in1.units + d.depth < cLine := by
    have : X.A.in1.units ≤ X.A.units + 1 := by first | exact Nat.le_refl _ | simp [Around.in1]
    omega
  rcases hq with hq | hq
  · obtain ⟨its, rv, pl, _⟩ := I.list hq
    obtain ⟨as, r2⟩ := Dp.readsAll I es _ its he rv
    refine SeqAt.in_listAt (hitR s.heap d) pl.isList (fun w hw => hit_at r1 c1 hz r2 c3 w (by simpa using hw)) ?_
    rw [List.any_toArray, hit_any r2]
    exact fin_b I q
  · obtain ⟨its, rv, pl, _⟩ := I.tuple hq
    obtain ⟨as, r2⟩ := Dp.readsAll I es _ its he rv
    refine SeqAt.in_tupleAt (hitR s.heap d) pl (fun w hw => hit_at r1 c1 hz r2 c3 w (by simpa using hw)) ?_
    rw [List.any_toArray, hit_any r2]
    exact fin_b I q
theorem op_notInP (hu : X.A.units + 66 < cLine) : OpR X (compareOp .NotIn) (rInP X.K true) := by
  intro pins s σ H x y v u Q I rx ry h
  obtain ⟨a, xs, d, es, rfl, hq, hd, he, c1, c2, c3, q⟩ := h
  cases ry
  obtain ⟨bs, r1⟩ := Dp.reads I d x v hd rx
  have e0 : ∀ c : Bool, (true != c) = !c := fun c => by cases c <;> rfl
  rw [e0] at q
  have hz : X.A.in1.units + d.depth < cLine := by
    have : X.A.in1.units ≤ X.A.units + 1 := by first | exact Nat.le_refl _ | simp [Around.in1]
    omega
  rcases hq with hq | hq
  · obtain ⟨its, rv, pl, _⟩ := I.list hq
    obtain ⟨as, r2⟩ := Dp.readsAll I es _ its he rv
    refine SeqAt.notIn_listAt (hitR s.heap d) pl.isList (fun w hw => hit_at r1 c1 hz r2 c3 w (by simpa using hw)) ?_
    rw [List.any_toArray, hit_any r2]
    exact fin_b I q
  · obtain ⟨its, rv, pl, _⟩ := I.tuple hq
    obtain ⟨as, r2⟩ := Dp.readsAll I es _ its he rv
    refine SeqAt.notIn_tupleAt (hitR s.heap d) pl (fun w hw => hit_at r1 c1 hz r2 c3 w (by simpa using hw)) ?_
    rw [List.any_toArray, hit_any r2]
    exact fin_b I q
end
def seqD : D → Option (List D)
  | .lst l => some l
  | .tup l => some l
  | _ => none
def inB (d y : D) : Option Bool := (seqD y).bind fun l => (pyD d).bind fun p => (pyDs l).bind fun es => if p.canLay0 = true ∧ p.depth ≤ 64 ∧ PyData.canLayAll0 es = true then some (es.any fun e => PyData.eqv e p) else none
def gIn (neg : Bool) (d y : D) : Option Z := (inB d y).map fun c => .d (.bl (neg != c))
theorem inB_get {d y : D} {c : Bool} (h : inB d y = some c) : ∃ l p es, seqD y = some l ∧ pyD d = some p ∧ pyDs l = some es ∧ p.canLay0 = true ∧ p.depth ≤ 64 ∧ PyData.canLayAll0 es = true ∧ c = es.any fun e => PyData.eqv e p := by
  unfold inB at h
  cases e0 : seqD y with
  | none => rw [e0] at h; cases h
  | some l =>
    rw [e0] at h
    have h : ((pyD d).bind fun p => (pyDs l).bind fun es => if p.canLay0 = true ∧ p.depth ≤ 64 ∧ PyData.canLayAll0 es = true then some (es.any fun e => PyData.eqv e p) else none) = some c := h
    cases e1 : pyD d with
    | none => rw [e1] at h; cases h
    | some p =>
      rw [e1] at h
      have h : ((pyDs l).bind fun es => if p.canLay0 = true ∧ p.depth ≤ 64 ∧ PyData.canLayAll0 es = true then some (es.any fun e => PyData.eqv e p) else none) = some c := h
      cases e2 : pyDs l with
      | none => rw [e2] at h; cases h
      | some es =>
        rw [e2] at h
        have h : (if p.canLay0 = true ∧ p.depth ≤ 64 ∧ PyData.canLayAll0 es = true then some (es.any fun e => PyData.eqv e p) else none) = some c := h
        split at h
        · rename_i hs
          cases h
          exact ⟨l, p, es, rfl, rfl, e2, hs.1, hs.2.1, hs.2.2, rfl⟩
        · cases h
theorem o_in {K : PySem.W.Frag} {neg : Bool} : Op2 K (rInP K neg) (gIn neg) := fun H G x y d e z Q xx rx ry hz k => by
  unfold gIn at hz
  cases hd : inB d e with
  | none => rw [hd] at hz; cases hz
  | some c =>
    rw [hd] at hz
    cases hz
    obtain ⟨l, p, es, h0, h1, h2, h3, h4, h5, rfl⟩ := inB_get hd
    cases e <;> cases h0
    · obtain ⟨a, xs, rfl, q1, r1⟩ := ry.lst xx
      exact ⟨a, xs, p, es, rfl, .inl (SqL.of q1), rc_dp xx rx h1, pyDs_dp xx r1 h2, h3, h4, h5, k _ H ⟨rfl, .bl _⟩⟩
    · obtain ⟨a, xs, rfl, q1, r1, _⟩ := ry.tup xx
      exact ⟨a, xs, p, es, rfl, .inr q1.1, rc_dp xx rx h1, pyDs_dp xx r1 h2, h3, h4, h5, k _ H ⟨rfl, .bl _⟩⟩

/-! ### is, is not -/
def nonD : D → Bool
  | .non => true
  | _ => false
def isB (d e : D) : Option Bool := match e with
  | .non => some (nonD d)
  | .bl c => match d with
    | .bl a => some (decide (a = c))
    | _ => none
  | _ => none
def gIs (neg : Bool) (d e : D) : Option Z := (isB d e).map fun c => .d (.bl (neg != c))
def rIsA (neg : Bool) : R2 := fun x y H Q => (y = .non ∧ Q (.bl (neg != decide (x = .non))) H) ∨ ∃ a b : Bool, x = .bl a ∧ y = .bl b ∧ Q (.bl (neg != decide (a = b))) H
section
variable {X : Cx}
theorem op_isA : OpR X (compareOp .Is) (rIsA false) := by
  intro pins s σ H x y v u Q I rx ry h
  have e0 : ∀ c : Bool, (false != c) = c := fun c => by cases c <;> rfl
  rcases h with ⟨h, q⟩ | ⟨a, b, h1, h2, q⟩
  · rw [e0] at q; exact op_isN pins s σ H x y v u Q I rx ry ⟨h, q⟩
  · rw [e0] at q; exact op_isBl pins s σ H x y v u Q I rx ry ⟨a, b, h1, h2, q⟩
theorem op_notA : OpR X (compareOp .IsNot) (rIsA true) := by
  intro pins s σ H x y v u Q I rx ry h
  have e0 : ∀ c : Bool, (true != c) = !c := fun c => by cases c <;> rfl
  rcases h with ⟨h, q⟩ | ⟨a, b, h1, h2, q⟩
  · rw [e0] at q; exact op_notN pins s σ H x y v u Q I rx ry ⟨h, q⟩
  · rw [e0] at q; exact op_notBl pins s σ H x y v u Q I rx ry ⟨a, b, h1, h2, q⟩
end
theorem rc_non {K : PySem.W.Frag} {H G : Hp} {x : V} {d : D} (r : Rc K H G x d) : decide (x = .non) = nonD d := by
  rcases r with r | ⟨a, h, o, rfl, h1, r, rfl⟩
  · cases r <;> rfl
  · cases o <;> rfl
theorem o_is {K : PySem.W.Frag} {neg : Bool} : Op2 K (rIsA neg) (gIs neg) := fun H G x y d e z Q xx rx ry hz k => by
  unfold gIs at hz
  cases hd : isB d e with
  | none => rw [hd] at hz; cases hz
  | some c =>
    rw [hd] at hz
    cases hz
    unfold isB at hd
    split at hd
    · cases hd
      have hy : y = .non := by
        rcases ry with ry | ⟨a, h, o, _, _, _, z⟩
        · cases ry; rfl
        · cases o <;> cases z
      refine .inl ⟨hy, ?_⟩
      rw [rc_non rx]
      exact k _ H ⟨rfl, .bl _⟩
    · split at hd
      · cases hd
        obtain rfl := rx.bl
        obtain rfl := ry.bl
        exact .inr ⟨_, _, rfl, rfl, k _ H ⟨rfl, .bl _⟩⟩
      · cases hd
    · cases hd

/-! ### isinstance(x, T), T a built-in type, data -/
def tyD : D → Option String
  | .non => some "NoneType"
  | .bl _ => some "bool"
  | .int _ => some "int"
  | .str _ => some "str"
  | .lst _ => some "list"
  | .fzl _ => some "list"
  | .tup _ => some "tuple"
  | .dct _ => some "dict"
  | _ => none
/-- of an instance's class nothing is told here -/
def isiB (a b : String) : Option Bool := if a ∈ ["NoneType", "bool", "int", "str", "list", "tuple", "dict"] ∧ b ∈ ["bool", "int", "str", "list", "tuple", "dict"] then some (a == b || (a == "bool" && b == "int")) else none
theorem isiB_all : (["NoneType", "bool", "int", "str", "list", "tuple", "dict"].all fun a => ["bool", "int", "str", "list", "tuple", "dict"].all fun b => kitB a b == some (a == b || (a == "bool" && b == "int"))) = true := by decide +kernel
theorem isiB_ok {a b : String} {c : Bool} (h : isiB a b = some c) : kitB a b = some c := by
  unfold isiB at h
  split at h
  · rename_i hs
    cases h
    have h1 := List.all_eq_true.mp isiB_all a hs.1
    have h2 := List.all_eq_true.mp h1 b hs.2
    exact eq_of_beq h2
  · cases h
theorem tyx {K : PySem.W.Frag} {H G : Hp} {x : V} {d : D} {t : String} (xx : Ex G H) (r : Rc K H G x d) (h : tyD d = some t) : TyX K H x (.type t) := by
  rcases r with r | ⟨a, hh, o, rfl, h1, r, rfl⟩
  · cases r with
    | non => cases h; exact .base .non
    | bl c => cases h; exact .base (.bl c)
    | int i => cases h; exact .base (.int i)
    | str x => cases h; exact .base (.str x)
    | lst q r => cases h; exact .base (.lst (xx _ _ q))
    | fzl q r =>
      cases h
      rcases xx.sql q with (q | ⟨o, q⟩) | ⟨o, its, n, q, hc, _⟩
      · exact .base (.lst q)
      · exact .base (.frz q)
      · exact .kList q hc
    | tup q r =>
      cases h
      rcases xx.sqt q.1 with (q | ⟨o, q⟩) | ⟨o, its, n, q, hc, _⟩
      · exact .base (.tup q)
      · exact .fTuple q
      · exact .kTuple q hc
    | dct q r => cases h; exact .base (.dK (xx _ _ q))
    | ins q r => cases h
    | wt q r => cases h
    | ty n => cases h
    | cls C => cases h
  · cases r with
    | lst r => cases h; exact .base (.lst h1)
    | dct r => cases h; exact .base (.dK h1)
    | ins r => cases h
def gIsi : List D → Option Z
  | [d, .ty T] => ((tyD d).bind fun t => isiB t T).map fun c => .d (.bl c)
  | _ => none
theorem Rc.ty {K : PySem.W.Frag} {H G : Hp} {x : V} {n : String} (r : Rc K H G x (.ty n)) : x = .ty n := by
  rcases r with r | ⟨a, h, o, _, _, _, z⟩
  · cases r; rfl
  · cases o <;> cases z
theorem b_isi {K : PySem.W.Frag} : FnB K (rIsi K) gIsi := fun H G xs ds z Q xx r hz k => by
  unfold gIsi at hz
  split at hz
  · rename_i d T
    cases h1 : tyD d with
    | none => rw [h1] at hz; cases hz
    | some t =>
      rw [h1] at hz
      have hz : (isiB t T).map (fun c => Z.d (.bl c)) = some z := hz
      cases h2 : isiB t T with
      | none => rw [h2] at hz; cases hz
      | some c =>
        rw [h2] at hz
        cases hz
        obtain ⟨x, y, rfl, r1, r2⟩ := pr2 r
        obtain rfl := r2.ty
        exact ⟨x, .ty T, .type t, .type T, c, rfl, .ty T, tyx xx r1 h1, kit_ty (isiB_ok h2), k _ H ⟨rfl, .bl _⟩⟩
  · cases hz
end DL

set_option Elab.async false
set_option maxRecDepth 100000
set_option maxHeartbeats 4000000
/-! DL12: dict(pairs), get, repr, what is walked of any kind, calls by promises. -/
namespace DL
open PySem PySem.Spec PyProof.Rows L2

/-! ### tables -/
def putKD (kvs : List (Key × D)) (k : Key) (v : D) : List (Key × D) := if (kvs.any fun kv => decide (kv.1 = k)) = true then kvs.map (fun kv => if kv.1 = k then (kv.1, v) else kv) else kvs ++ [(k, v)]
def mergeKD (kvs more : List (Key × D)) : List (Key × D) := more.foldl (fun acc kv => putKD acc kv.1 kv.2) kvs
def lookKD (kvs : List (Key × D)) (k : Key) : Option D := (kvs.find? fun kv => decide (kv.1 = k)).map (·.2)
def keyD : D → Option Key
  | .int i => some (.inl i)
  | .str x => some (.inr x)
  | _ => none
theorem keyD_rp {K : PySem.W.Frag} {G : Hp} {v : V} {d : D} {k : Key} (r : Rp K G v d) (h : keyD d = some k) : v = kV k := by
  cases r with
  | int i => cases h; rfl
  | str x => cases h; rfl
  | _ => cases h
section
variable {K : PySem.W.Frag} {G : Hp}
theorem RpK.any (k : Key) : ∀ {ks : List (Key × V)} {ds : List (Key × D)}, RpK K G ks ds → (ks.any fun kv => decide (kv.1 = k)) = ds.any fun kv => decide (kv.1 = k)
  | _, _, .nil => rfl
  | _, _, .cons h r => by rw [List.any_cons, List.any_cons, RpK.any k r]
theorem RpK.repl {v : V} {d : D} (k : Key) (q : Rp K G v d) : ∀ {ks : List (Key × V)} {ds : List (Key × D)}, RpK K G ks ds → RpK K G (ks.map fun kv => if kv.1 = k then (kv.1, v) else kv) (ds.map fun kv => if kv.1 = k then (kv.1, d) else kv)
  | _, _, .nil => .nil
  | _, _, .cons (k := j) h r => by
    rw [List.map_cons, List.map_cons]
    by_cases e : j = k
    · rw [if_pos e, if_pos e]; exact .cons q (RpK.repl k q r)
    · rw [if_neg e, if_neg e]; exact .cons h (RpK.repl k q r)
theorem RpK.snoc {v : V} {d : D} (k : Key) (q : Rp K G v d) : ∀ {ks : List (Key × V)} {ds : List (Key × D)}, RpK K G ks ds → RpK K G (ks ++ [(k, v)]) (ds ++ [(k, d)])
  | _, _, .nil => .cons q .nil
  | _, _, .cons h r => .cons h (RpK.snoc k q r)
theorem RpK.put {v : V} {d : D} (k : Key) (q : Rp K G v d) {ks : List (Key × V)} {ds : List (Key × D)} (r : RpK K G ks ds) : RpK K G (putK ks k v) (putKD ds k d) := by
  unfold putK putKD
  rw [RpK.any k r]
  split
  · exact RpK.repl k q r
  · exact RpK.snoc k q r
theorem RpK.merge : ∀ {more : List (Key × V)} {dm : List (Key × D)} {ks : List (Key × V)} {ds : List (Key × D)}, RpK K G more dm → RpK K G ks ds → RpK K G (mergeK ks more) (mergeKD ds dm)
  | _, _, ks, ds, .nil, q => q
  | _, _, ks, ds, .cons (k := k) h r, q => by
    show RpK K G (mergeK (putK ks k _) _) (mergeKD (putKD ds k _) _)
    exact RpK.merge r (RpK.put k h q)
theorem RpK.look (k : Key) : ∀ {ks : List (Key × V)} {ds : List (Key × D)}, RpK K G ks ds → (valV ks k = none ∧ lookKD ds k = none) ∨ ∃ v d, valV ks k = some v ∧ lookKD ds k = some d ∧ Rp K G v d
  | _, _, .nil => .inl ⟨rfl, rfl⟩
  | _, _, .cons (k := j) (v := v) (d := d) h r => by
    unfold valV lookKD
    rw [List.find?_cons, List.find?_cons]
    by_cases e : j = k
    · rw [decide_eq_true (show (j, v).1 = k from e)]
      exact .inr ⟨v, d, rfl, rfl, h⟩
    · rw [decide_eq_false (show ¬ (j, v).1 = k from e)]
      exact RpK.look k r
end
/-- a tuple's or list's items, pairs of a key and something -/
def pairsD : List D → Option (List (Key × D))
  | [] => some []
  | .tup [k, v] :: r => (keyD k).bind fun k => (pairsD r).map fun ps => (k, v) :: ps
  | _ :: _ => none
theorem pairsD_ok {K : PySem.W.Frag} {G : Hp} : ∀ {xs : List V} {ds : List D} {ps : List (Key × D)}, RpA K G xs ds → pairsD ds = some ps → ∃ (as : List Addr) (kvs : List (Key × V)), xs = as.map V.ref ∧ Paired (fun p (kv : Key × V) => SqT K G p [kV kv.1, kv.2]) as kvs ∧ RpK K G kvs ps
  | _, _, ps, .nil, h => by cases h; exact ⟨[], [], rfl, .nil, .nil⟩
  | _, _, ps, .cons (d := d) (ds := ds) r rs, h => by
    unfold pairsD at h
    split at h
    · rename_i e; cases e
    · rename_i k v r' e
      cases e
      cases hk : keyD k with
      | none => rw [hk] at h; cases h
      | some key =>
        rw [hk] at h
        have h : (pairsD ds).map (fun ps => (key, v) :: ps) = some ps := h
        cases hr : pairsD ds with
        | none => rw [hr] at h; cases h
        | some qs =>
          rw [hr] at h
          cases h
          obtain ⟨as, kvs, rfl, p1, p2⟩ := pairsD_ok rs hr
          cases r with
          | tup h1 h2 =>
            cases h2 with
            | cons u1 u2 =>
              cases u2 with
              | cons u2 u3 =>
                cases u3
                obtain rfl := keyD_rp u1 hk
                exact ⟨_ :: as, (key, _) :: kvs, rfl, .cons h1.1 p1, .cons u2 p2⟩
    · cases h
theorem Paired.up {α β : Type} {F F' : α → β → Prop} (f : ∀ a b, F a b → F' a b) : ∀ {l : List α} {m : List β}, Paired F l m → Paired F' l m
  | _, _, .nil => .nil
  | _, _, .cons h t => .cons (f _ _ h) (Paired.up f t)
section
variable {X : Cx} {pins : List (Addr × Obj)} {σ : L2.St} {H : Hp} {s : Shared}
theorem pairs_vals (I : Inv X pins σ H s) : ∀ {ps : List Addr} {kvs : List (Key × V)}, Paired (fun p kv => SqT X.K H p [kV kv.1, kv.2]) ps kvs →
    ∃ (prs : List (Key × Value)) (us : List (Value × Value)), KV kvs prs ∧ us.length = ps.length ∧ prs.length = ps.length ∧ (∀ (j : Nat) (k v : Value), us[j]? = some (k, v) → ∃ b, ps[j]? = some b ∧ IsTup s.heap b #[k, v]) ∧
      ∀ (j : Nat) (k v : Value), us[j]? = some (k, v) → ∃ key, prs[j]? = some (key, v) ∧ keyIs key k = true
  | _, _, .nil => ⟨[], [], .nil, rfl, rfl, fun j k v e => by simp at e, fun j k v e => by simp at e⟩
  | _, _, .cons (a := p) (b := kv) h t => by
    obtain ⟨prs, us, r, hl, hl2, h1, h2⟩ := pairs_vals I t
    obtain ⟨its, rv, ht, _⟩ := I.tuple h
    obtain ⟨u, y, ei, ru, ry⟩ := vals2 rv
    subst ei
    refine ⟨(kv.1, y) :: prs, (u, y) :: us, .cons ⟨rfl, ry⟩ r, by rw [List.length_cons, List.length_cons, hl], by rw [List.length_cons, List.length_cons, hl2], fun j k v e => ?_, fun j k v e => ?_⟩
    · cases j with
      | zero => cases e; exact ⟨p, rfl, ht⟩
      | succ j =>
        obtain ⟨b, e1, e2⟩ := h1 j k v (by simpa using e)
        exact ⟨b, by simpa using e1, e2⟩
    · cases j with
      | zero => cases e; exact ⟨kv.1, rfl, kV_is (P := X.prog) (w := X.w) ru⟩
      | succ j =>
        obtain ⟨key, e1, e2⟩ := h2 j k v (by simpa using e)
        exact ⟨key, by simpa using e1, e2⟩
theorem sqp_obj (I : Inv X pins σ H s) {a : Addr} {xs : List V} (h : SqP X.K H a xs) : ∃ (its : List Value) (o : Obj) (n : Nat), Vals xs its ∧ s.heap.get? a = some o ∧ o.cls = .type "tuple" ∧ o.dict = none ∧ o.data = .seq its.toArray n ∧ xs.length ≤ sizeLine := by
  obtain ⟨its, r, ⟨o, ho, hc, n, hd⟩, hz⟩ := I.tuple h.1
  refine ⟨its, o, n, r, ho, hc, ?_, hd, hz⟩
  rcases h.2 with ⟨o', u, h1, h2⟩ | ⟨o', h1, h2⟩
  · have := (show ObjOk X.prog X.w H s.heap a (.frz o' u) from I.hok a _ h1).1
    rw [ho] at this; cases this; exact h2
  · have := I.kIn _ _ h1
    rw [ho] at this; cases this; exact h2
end
def rDictT (K : PySem.W.Frag) : List V → Hp → VK → Prop := fun xs H Q => ∃ (a : Addr) (ps : List Addr) (kvs : List (Key × V)), xs = [.ref a] ∧ SqP K H a (ps.map V.ref) ∧ Paired (fun p kv => SqT K H p [kV kv.1, kv.2]) ps kvs ∧
    ∀ p, H p = none → Q (.ref p) (upd H p (.dK (mergeK [] kvs)))
theorem call_dictT {X : Cx} (hcalm : X.calm = true) : CallR X (.type "dict") (rDictT X.K) := by
  intro pins s σ H xs us Q I r q
  obtain ⟨a, ps, kvs, ex, hq, hp, q⟩ := q
  subst ex
  obtain ⟨u, eu, rx⟩ := vals1 r
  subst eu
  cases rx
  obtain ⟨its, o, n, rv, ho, hc, hd, hdat, hz⟩ := sqp_obj I hq
  have ei := refs_at rv
  subst ei
  rw [List.length_map] at hz
  obtain ⟨prs, us, rel, hl, hl2, h1, h2⟩ := pairs_vals I hp
  have PA := PySem.PairArg.tuple (prog := X.prog) (w := X.w) a (ps.map Value.ref).toArray (fun j => ps.getD j 0) us
  refine PySem.call_dict_pairs (knd := mixKind X.prog X.w) (kvs := prs) PA (I.ok.hd hcalm) ⟨⟨o, n, ho, hc, hd, hdat⟩, by rw [List.size_toArray, List.length_map, hl], fun j k v e => ?_⟩ ⟨by rw [hl, hl2], fun i key v e => ?_⟩ (by rw [hl]; exact hz) fun h' tk hd' kp => ?_
  · obtain ⟨b, e1, e2⟩ := h1 j k v e
    have e3 : ps.getD j 0 = b := by rw [List.getD_eq_getElem?_getD, e1]; rfl
    show _ = some (Value.ref (ps.getD j 0)) ∧ PairAt s.heap (ps.getD j 0) k v
    rw [e3]
    exact ⟨by rw [← Array.getElem?_toList, List.getElem?_map, e1]; rfl, .inl e2⟩
  · exact h2 i key v e
  · have hm : (s.heap.objs.size == sysModules) = false := beq_eq_false_iff_ne.mpr (Nat.ne_of_gt I.big)
    have hlen : (mergeK [] kvs).length ≤ sizeLine := by
      refine Nat.le_trans (length_mergeK kvs []) ?_
      rw [List.length_nil, Nat.zero_add, rel.length, hl2]
      exact hz
    exact ⟨.ref s.heap.objs.size, upd H s.heap.objs.size (.dK (mergeK [] kvs)), I.laid (t' := tk) (fun b o e => kp b o (fun z => by cases z) e) (Nat.le_refl _) (show ObjOk X.prog X.w _ _ _ (.dK (mergeK [] kvs)) from ⟨hlen, hm, merged [] prs, KV.merge rel .nil, hd'⟩), rfl, q _ (I.hok.fresh (Nat.le_refl _))⟩
def gDictOf : List D → Option Z
  | [.tup l] => (pairsD l).map fun ps => .n (.dct (mergeKD [] ps))
  | _ => none
theorem b_dictOf {K : PySem.W.Frag} : FnB K (rDictT K) gDictOf := fun H G xs ds z Q xx r hz k => by
  unfold gDictOf at hz
  split at hz
  · rename_i l
    cases hp : pairsD l with
    | none => rw [hp] at hz; cases hz
    | some ps =>
      rw [hp] at hz
      cases hz
      obtain ⟨v, rfl, r'⟩ := pr1 r
      obtain ⟨a, xs, rfl, h1, r1, _⟩ := r'.tup xx
      obtain ⟨as, kvs, rfl, p1, p2⟩ := pairsD_ok r1 hp
      exact ⟨a, as, kvs, rfl, h1, Paired.up (fun _ _ h => xx.sqt h) p1, fun p hp => k _ _ ⟨p, _, rfl, hp, rfl, .dct (RpK.merge p2 .nil)⟩⟩
  · cases hz

/-! ### d.get(k) -/
def dctD : D → Option (List (Key × D))
  | .dct l => some l
  | _ => none
def wDGet1 (ta tb : TD) : TD := fun ρ Q => ta ρ fun r ρ1 => lk ((con ρ1 r).bind dctD) fun _ => tb ρ1 fun r2 ρ2 => lk ((con ρ2 r).bind dctD) fun l => lk ((con ρ2 r2).bind keyD) fun k => Q (.dat ((lookKD l k).getD .non)) ρ2
theorem Rc.dct {K : PySem.W.Frag} {H G : Hp} {v : V} {d : D} {l : List (Key × D)} (e : Ex G H) (r : Rc K H G v d) (h : dctD d = some l) : ∃ a ks, v = .ref a ∧ H a = some (.dK ks) ∧ RpK K G ks l := by
  cases d <;> cases h
  rcases r with r | ⟨a, h, o, rfl, h1, r, z⟩
  · cases r with | dct h1 h2 => exact ⟨_, _, rfl, e _ _ h1, h2⟩
  · cases r with
    | lst r => cases z
    | ins r => cases z
    | dct r => cases z; exact ⟨a, _, rfl, h1, r⟩
theorem bind_get {α β : Type} {x : Option α} {f : α → Option β} {b : β} (h : x.bind f = some b) : ∃ a, x = some a ∧ f a = some b := by
  cases x with
  | none => cases h
  | some a => exact ⟨a, rfl, h⟩
theorem keyD_rc {K : PySem.W.Frag} {H G : Hp} {v : V} {d : D} {k : Key} (r : Rc K H G v d) (h : keyD d = some k) : v = kV k := by
  rcases r with r | ⟨a, hh, o, rfl, h1, r, rfl⟩
  · exact keyD_rp r h
  · cases o <;> cases h
theorem d_get1D {X : Cx} {b : Bas} {o e : Expr} {ta tb : TD} {apos cpos : Pos} (hu : X.A.units + 1 < cLine) (ho : PD X b o ta) (he : PD X b e tb) (m : M1 X o "get" apos e cpos) : PD X b (.Call (.Attribute o "get" apos) [e] [] cpos) (wDGet1 ta tb) :=
  pe_weak (pe_dget1 hu ho he m) fun σ H Q q => by
    obtain ⟨G, ρ, QD, w, q, k⟩ := q
    refine ⟨G, ρ, _, w, q, fun v H1 G1 r ρ1 w1 m1 q1 z => ?_⟩
    obtain ⟨l, e1, z⟩ := lk_get z
    obtain ⟨d, c1, c2⟩ := bind_get e1
    obtain ⟨a, ks, rfl, h1, _⟩ := (q1.rc w1 c1).dct w1.sub c2
    refine ⟨a, rfl, .inl ⟨ks, .inl h1⟩, G1, ρ1, _, w1, z, fun u H2 G2 r2 ρ2 w2 m2 q2 z => ?_⟩
    obtain ⟨l2, e2, z⟩ := lk_get z
    obtain ⟨key, e3, z⟩ := lk_get z
    obtain ⟨d2, c3, c4⟩ := bind_get e2
    obtain ⟨dk, c5, c6⟩ := bind_get e3
    have rc2 : Rc X.K H2 G2 (.ref a) d2 := (q1.stay m2).rc w2 c3
    obtain ⟨a', ks2, ea, h2, r2'⟩ := rc2.dct w2.sub c4
    cases ea
    obtain rfl := keyD_rc (q2.rc w2 c5) c6
    refine ⟨valV ks2 key, .inl ⟨ks2, key, .inl h2, rfl, rfl⟩, ?_⟩
    rcases RpK.look key r2' with ⟨y1, y2⟩ | ⟨v, d, y1, y2, y3⟩
    · rw [y1]
      rw [y2] at z
      exact k _ H2 G2 (.dat .non) ρ2 w2 (m1.trans m2) .non z
    · rw [y1]
      rw [y2] at z
      exact k _ H2 G2 (.dat d) ρ2 w2 (m1.trans m2) y3 z

/-! ### repr -/
mutual
inductive Dr (K : PySem.W.Frag) (H : Hp) : V → PyData → Prop
  | non : Dr K H .non .none
  | bl (b : Bool) : Dr K H (.bl b) (.bool b)
  | int (i : Int) : Dr K H (.int i) (.int i)
  | str (x : Str) : Dr K H (.str x) (.str x)
  | lst {a : Addr} {xs : List V} {ds : List PyData} : SqL K H a xs → DrAll K H xs ds → Dr K H (.ref a) (.list ds)
  | tup {a : Addr} {xs : List V} {ds : List PyData} : SqT K H a xs → DrAll K H xs ds → Dr K H (.ref a) (.tuple ds)
  | dct0 {a : Addr} : H a = some (.dK []) → Dr K H (.ref a) (.dict [])
inductive DrAll (K : PySem.W.Frag) (H : Hp) : List V → List PyData → Prop
  | nil : DrAll K H [] []
  | cons {v : V} {vs : List V} {d : PyData} {ds : List PyData} : Dr K H v d → DrAll K H vs ds → DrAll K H (v :: vs) (d :: ds)
end
/-- the table of modules is a dict -/
def ModsOk (base : Heap) : Prop := ∃ mm, base.Ns sysModules mm
section
variable {X : Cx} {pins : List (Addr × Obj)} {σ : L2.St} {H : Hp} {s : Shared}
mutual
theorem Dr.reads (I : Inv X pins σ H s) (hM : ModsOk X.base) : ∀ {v : V} {d : PyData} {u : Value}, Dr X.K H v d → RelV v u → ∃ as, Reads s.heap u d as ∧ sysModules ∉ as
  | _, _, _, .non, r => by cases r; exact ⟨_, Reads.none, by simp⟩
  | _, _, _, .bl c, r => by cases r; exact ⟨_, Reads.bool c, by simp⟩
  | _, _, _, .int i, r => by obtain ⟨t, rfl⟩ := r; exact ⟨_, Reads.int i t, by simp⟩
  | _, _, _, .str x, r => by obtain ⟨t, rfl⟩ := r; exact ⟨_, Reads.str x t, by simp⟩
  | _, _, _, .lst hs ha, r => by
    cases r
    obtain ⟨its, rv, ⟨o, n, ho, hc, _, hd⟩, _⟩ := I.list hs
    obtain ⟨as, hr, hn⟩ := Dr.readsAll I hM ha rv
    refine ⟨_, Reads.list ho hc hd hr, fun z => ?_⟩
    rcases List.mem_cons.mp z with e | z
    · obtain ⟨mm, o', es, ep, k1, k2, _⟩ := hM
      have := I.bk _ _ k1
      rw [e, ho] at this
      cases this
      rw [hd] at k2
      cases k2
    · exact hn z
  | _, _, _, .tup hs ha, r => by
    cases r
    obtain ⟨its, rv, ⟨o, ho, hc, n, hd⟩, _⟩ := I.tuple hs
    obtain ⟨as, hr, hn⟩ := Dr.readsAll I hM ha rv
    exact ⟨_, Reads.tuple ho hc hd hr, hn⟩
  | _, _, _, .dct0 hs, r => by
    cases r
    obtain ⟨_, hne, vs, rel, o, es, ep, ho, hex, hdat, _, hp, _⟩ := (show ObjOk X.prog X.w H s.heap _ (.dK []) from I.hok _ _ hs)
    cases rel
    have e0 : es.toList = [] := by
      generalize es.toList = l at hp
      cases hp; rfl
    refine ⟨_, Reads.dict ho hex.1 hdat (kvs := []) (by rw [e0]; exact .nil) (by rw [e0]; exact .nil), fun z => ?_⟩
    rcases List.mem_append.mp z with z | z
    · rcases List.mem_cons.mp z with e | z
      · rw [← e] at hne
        exact absurd hne (by simp)
      · cases z
    · cases z
theorem Dr.readsAll (I : Inv X pins σ H s) (hM : ModsOk X.base) : ∀ {vs : List V} {ds : List PyData} {us : List Value}, DrAll X.K H vs ds → Vals vs us → ∃ as, ReadsAll s.heap us ds as ∧ sysModules ∉ as
  | _, _, _, .nil, r => by cases r; exact ⟨_, .nil, by simp⟩
  | _, _, _, .cons h1 h2, r => by
    cases r with
    | cons r1 r2 =>
      obtain ⟨as, q1, n1⟩ := Dr.reads I hM h1 r1
      obtain ⟨bs, q2, n2⟩ := Dr.readsAll I hM h2 r2
      exact ⟨_, .cons q1 q2, fun z => (List.mem_append.mp z).elim n1 n2⟩
end
end
def rRepr (K : PySem.W.Frag) : List V → Hp → VK → Prop := fun xs H Q => ∃ x d, xs = [x] ∧ Dr K H x d ∧ d.showable = true ∧ d.depth ≤ 60 ∧ d.shown.length ≤ sizeLine ∧ Q (.str d.shown) H
theorem cr_repr {X : Cx} (hM : ModsOk X.base) (hg : X.A.guards = some []) (hu : X.A.units + 64 < cLine) : CallR X (.builtin "repr") (rRepr X.K) := by
  intro pins s σ H xs us Q I r h
  obtain ⟨x, d, rfl, hd, hs, hz, hl, q⟩ := h
  obtain ⟨u, rfl, rx⟩ := vals1 r
  cases hd with
  | non => cases rx; exact PySem.P.repr_of_none ⟨.str _, H, I.tok _, ⟨_, rfl⟩, q⟩
  | bl c => cases rx; exact PySem.P.repr_of_bool ⟨.str _, H, I.tok _, ⟨_, rfl⟩, by cases c <;> exact q⟩
  | int i =>
    obtain ⟨t, rfl⟩ := rx
    exact PySem.P.repr_of_int (of_decide_eq_true (by simpa [PyData.showable] using hs)) ⟨.str _, H, I.tok _, ⟨_, rfl⟩, q⟩
  | str x =>
    obtain ⟨t, rfl⟩ := rx
    exact PySem.P.repr_of_str ⟨.str _, H, I.tok _, ⟨_, rfl⟩, q⟩ hl
  | lst h1 h2 =>
    cases rx
    obtain ⟨as, r1, n1⟩ := Dr.reads I hM (.lst h1 h2) rfl
    exact repr_of_reads' r1 hs (fun _ => n1) hg (by omega) (fun _ _ e => e) (fun h' u tk kp => ⟨.str _, H, I.kept (t' := tk) kp, ⟨_, rfl⟩, q⟩) (hsz := hl)
  | tup h1 h2 =>
    cases rx
    obtain ⟨as, r1, n1⟩ := Dr.reads I hM (.tup h1 h2) rfl
    exact repr_of_reads' r1 hs (fun _ => n1) hg (by omega) (fun _ _ e => e) (fun h' u tk kp => ⟨.str _, H, I.kept (t' := tk) kp, ⟨_, rfl⟩, q⟩) (hsz := hl)
  | dct0 h1 =>
    cases rx
    obtain ⟨as, r1, n1⟩ := Dr.reads I hM (.dct0 h1) rfl
    exact repr_of_reads' r1 hs (fun _ => n1) hg (by omega) (fun _ _ e => e) (fun h' u tk kp => ⟨.str _, H, I.kept (t' := tk) kp, ⟨_, rfl⟩, q⟩) (hsz := hl)
end DL

set_option Elab.async false
set_option maxRecDepth 100000
set_option maxHeartbeats 4000000
/-! DL13: repr of data, what is walked of any kind, calls by promises, empty dict. -/
namespace DL
open PySem PySem.Spec PyProof.Rows L2

mutual
def pyR : D → Option PyData
  | .non => some .none
  | .bl c => some (.bool c)
  | .int i => some (.int i)
  | .str x => some (.str x)
  | .lst l => (pyRs l).map .list
  | .tup l => (pyRs l).map .tuple
  | .dct [] => some (.dict [])
  | .dct (_ :: _) => none
  | .ins _ _ => none
  | .fzl _ => none
  | .wt _ => none
  | .ty _ => none
  | .cls _ => none
def pyRs : List D → Option (List PyData)
  | [] => some []
  | d :: ds => (pyR d).bind fun p => (pyRs ds).map fun ps => p :: ps
end
section
variable {K : PySem.W.Frag} {H G : Hp}
mutual
theorem pyR_dr (e : Ex G H) : ∀ {v : V} {d : D} {p : PyData}, Rp K G v d → pyR d = some p → Dr K H v p
  | _, _, p, .non, h => by cases h; exact .non
  | _, _, p, .bl c, h => by cases h; exact .bl c
  | _, _, p, .int i, h => by cases h; exact .int i
  | _, _, p, .str x, h => by cases h; exact .str x
  | _, _, p, .dct (ds := ds) h1 h2, h => by
    cases h2 with
    | nil =>
      have h : some (PyData.dict []) = some p := by unfold pyR at h; exact h
      cases h
      exact .dct0 (e _ _ h1)
    | cons a b => unfold pyR at h; cases h
  | _, _, p, .ins _ _, h => by unfold pyR at h; cases h
  | _, _, p, .fzl _ _, h => by unfold pyR at h; cases h
  | _, _, p, .wt _ _, h => by unfold pyR at h; cases h
  | _, _, p, .ty _, h => by unfold pyR at h; cases h
  | _, _, p, .cls _, h => by unfold pyR at h; cases h
  | _, _, p, .lst (ds := ds) h1 h2, h => by
    unfold pyR at h
    cases q : pyRs ds with
    | none => rw [q] at h; cases h
    | some ps => rw [q] at h; cases h; exact .lst (SqL.of (e _ _ h1)) (pyRs_dr e h2 q)
  | _, _, p, .tup (ds := ds) h1 h2, h => by
    unfold pyR at h
    cases q : pyRs ds with
    | none => rw [q] at h; cases h
    | some ps => rw [q] at h; cases h; exact .tup (e.sqt h1.1) (pyRs_dr e h2 q)
theorem pyRs_dr (e : Ex G H) : ∀ {v : List V} {d : List D} {p : List PyData}, RpA K G v d → pyRs d = some p → DrAll K H v p
  | _, _, p, .nil, h => by cases h; exact .nil
  | _, _, p, .cons (d := d) (ds := ds) h1 h2, h => by
    unfold pyRs at h
    cases q : pyR d with
    | none => rw [q] at h; cases h
    | some x =>
      rw [q] at h
      have h' : Option.map (fun ps => x :: ps) (pyRs ds) = some p := h
      cases q2 : pyRs ds with
      | none => rw [q2] at h'; cases h'
      | some ps => rw [q2] at h'; cases h'; exact .cons (pyR_dr e h1 q) (pyRs_dr e h2 q2)
end
theorem rc_dr {v : V} {d : D} {p : PyData} (e : Ex G H) (r : Rc K H G v d) (h : pyR d = some p) : Dr K H v p := by
  rcases r with r | ⟨a, hh, o, rfl, h1, r, rfl⟩
  · exact pyR_dr e r h
  · cases r with
    | lst r =>
      rename_i ds
      have h' : (pyRs ds).map PyData.list = some p := by unfold Own.d pyR at h; exact h
      cases q : pyRs ds with
      | none => rw [q] at h'; cases h'
      | some ps => rw [q] at h'; cases h'; exact .lst (SqL.of h1) (pyRs_dr e r q)
    | dct r =>
      cases r with
      | nil =>
        have h : some (PyData.dict []) = some p := by unfold Own.d pyR at h; exact h
        cases h
        exact .dct0 h1
      | cons a b => unfold Own.d pyR at h; cases h
    | ins r => unfold Own.d pyR at h; cases h
end
/-- the text that repr gives -/
def textD (d : D) : Option Str := (pyR d).bind fun p => if p.showable = true ∧ p.depth ≤ 60 ∧ p.shown.length ≤ sizeLine then some p.shown else none
def gRepr : List D → Option Z
  | [d] => (textD d).map fun x => .d (.str x)
  | _ => none
theorem b_repr {K : PySem.W.Frag} : FnB K (rRepr K) gRepr := fun H G xs ds z Q xx r hz k => by
  unfold gRepr at hz
  split at hz
  · rename_i d
    unfold textD at hz
    cases hp : pyR d with
    | none => rw [hp] at hz; cases hz
    | some p =>
      rw [hp] at hz
      have hz : (if p.showable = true ∧ p.depth ≤ 60 ∧ p.shown.length ≤ sizeLine then some p.shown else none).map (fun x => Z.d (.str x)) = some z := hz
      split at hz
      · rename_i hs
        cases hz
        obtain ⟨v, rfl, r'⟩ := pr1 r
        exact ⟨v, p, rfl, rc_dr xx r' hp, hs.1, hs.2.1, hs.2.2, k _ H ⟨rfl, .str _⟩⟩
      · cases hz
  · cases hz

/-! ### what is walked: a list, a tuple -/
def walkD : D → Option (List D)
  | .lst l => some l
  | .fzl l => some l
  | .tup l => some l
  | .wt l => some l
  | _ => none
def iSeq (K : PySem.W.Frag) (tl : TE) : TI := fun σ H R => tl σ H fun x H1 => ∃ a, x = .ref a ∧ (((∃ xs, SqL K H1 a xs) ∧ R (Itl K a) H1) ∨ ((∃ xs, SqT K H1 a xs) ∧ R (Itt K a) H1))
theorem pi_seq {X : Cx} {tg l : Expr} {tl : TE} (hl : PE X l tl) : PI X tg l (iSeq X.K tl) := by
  refine ⟨fun pins s σ H R I h => ?_⟩
  refine thn (hl.run pins s σ H _ I h) fun v s1 ⟨x, H1, I1, r1, q1⟩ => ?_
  obtain ⟨a, e, q1⟩ := q1
  subst e
  cases r1
  rcases q1 with ⟨⟨xs, hq⟩, q⟩ | ⟨⟨xs, hq⟩, q⟩
  · obtain ⟨its, rv, p, hz⟩ := I1.list hq
    refine wpAny_pyIter_list p.isList ?_
    refine ⟨s1.heap.objs.size, [s1.heap.objs.size], _, _, H1, rfl, I1.kept (t' := s1.toks) fun b o e => Heap.get?_push_of_some _ e, turn_list a _, ⟨_, Heap.get?_push_size _ rfl, rfl, rfl⟩, fun b hb => ?_, q⟩
    have e : b = s1.heap.objs.size := by simpa using hb
    subst e
    exact I1.fpOk (Nat.le_refl _) (I1.hok.fresh (Nat.le_refl _))
  · obtain ⟨its, rv, p, hz⟩ := I1.tuple hq
    refine wpAny_pyIter_tuple (show s1.heap.IsTuple a its.toArray from p) ?_
    refine ⟨s1.heap.objs.size, [s1.heap.objs.size], _, _, H1, rfl, I1.kept (t' := s1.toks) fun b o e => Heap.get?_push_of_some _ e, turn_tuple a _, ⟨_, Heap.get?_push_size _ rfl, rfl, rfl⟩, fun b hb => ?_, q⟩
    have e : b = s1.heap.objs.size := by simpa using hb
    subst e
    exact I1.fpOk (Nat.le_refl _) (I1.hok.fresh (Nat.le_refl _))
def wItS (ks : List Nat) (ta : TD) : TID := fun ρ Q => ta ρ fun r ρ1 => lk (frz ks r ρ1) fun p => lk (walkD p.1) fun l => Q l p.2
theorem i_seq {X : Cx} {b : Bas} {ks : List Nat} {tg e : Expr} {ta : TD} (hk : b.kp.map (·.1) = ks) (he : PD X b e ta) : PI X tg e (liftI X.K b (wItS ks ta)) := i_weak (pi_seq he) fun σ H Rr q => by
  obtain ⟨G, ρ, QD, w, q, k⟩ := q
  refine ⟨G, ρ, _, w, q, fun v H1 G1 r ρ1 w1 m1 q1 z => ?_⟩
  obtain ⟨p, e1, z⟩ := lk_get z
  obtain ⟨d, ρ2⟩ := p
  obtain ⟨G2, w2, m2, x2, r2, _⟩ := w1.frz hk m1 q1 e1
  obtain ⟨l, e2, z⟩ := lk_get z
  cases r2 with
  | lst h1 h2 => cases e2; exact ⟨_, rfl, .inl ⟨⟨_, SqL.of (w2.sub _ _ h1)⟩, k _ H1 G2 _ ρ2 w2 m2 (itD_list (SqL.of h1) h2) z⟩⟩
  | fzl h1 h2 => cases e2; exact ⟨_, rfl, .inl ⟨⟨_, w2.sub.sql h1⟩, k _ H1 G2 _ ρ2 w2 m2 (itD_list h1 h2) z⟩⟩
  | tup h1 h2 => cases e2; exact ⟨_, rfl, .inr ⟨⟨_, w2.sub.sqt h1.1⟩, k _ H1 G2 _ ρ2 w2 m2 (itD_tup h1.1 h2) z⟩⟩
  | wt h1 h2 => cases e2; exact ⟨_, rfl, .inr ⟨⟨_, w2.sub.sqt h1⟩, k _ H1 G2 _ ρ2 w2 m2 (itD_tup h1 h2) z⟩⟩
  | _ => cases e2

/-! ### {} -/
def wDct0 : TD := fun ρ Q => Q (.own (.dct [])) ρ
theorem d_dct0 {X : Cx} {b : Bas} {pos : Pos} : PD X b (.Dict [] [] pos) wDct0 := pe_weak pe_dnewK fun σ H Q q => by
  obtain ⟨G, ρ, QD, w, q, k⟩ := q
  exact fun p hp => k _ _ G (.own (.dct [])) ρ (w.new hp) (w.newF hp) ⟨p, _, rfl, upd_same, w.sub.gone hp, w.bas.gone hp, .dct .nil, w.apart hp, hp⟩ q

/-! ### calls by promises, whatever the frame -/
structure KnownP (P : Program) (w : World) (K : PySem.W.Frag) (mg : Str → Option Value) (base : Heap) (k : Nat) (x : Str) (sp : DSp) : Prop where
  ex : ∃ (f : Addr) (fd : FuncData) (ps : List Str), FnG P w K mg base CX0 k f fd ps (toSp K sp) ∧ mg x = some (.ref f) ∧ PySem.W.keepIn K (.ref f) = true ∧ Binds K fd ps []
section
variable {X : Cx} {b : Bas} {k : Nat} {sp : DSp} {x : Str} {p pos : Pos} {e : Expr} {es : List Expr} {t : TAD} {ks : List Nat}
theorem d_callP (hk : b.kp.map (·.1) = ks) (F : KnownP X.prog X.w X.K X.mg X.base k x sp) (room : Room k X.A) (grd : X.A.guards = some []) (hg : Gl X x) (args : PAD X b (e :: es) t)
    (hd : (x == ("__debug__" : Str)) = false := by decide) (hs : starEach (e :: es) X.env = (false, eval e X.env) :: starEach es X.env := by rfl) (hp : (backTo pos (starEach es X.env)).any (·.1) = false := by rfl) :
    PD X b (.Call (.Name x p) (e :: es) [] pos) (wCall ks sp t) := d_call hk ⟨F.ex⟩ room grd hg args hd hs hp
theorem d_callRP (hk : b.kp.map (·.1) = ks) (F : KnownP X.prog X.w X.K X.mg X.base k x sp) (room : Room k X.A) (grd : X.A.guards = some []) (hg : Gl X x) (args : PAD X b (e :: es) t)
    (hd : (x == ("__debug__" : Str)) = false := by decide) (hs : starEach (e :: es) X.env = (false, eval e X.env) :: starEach es X.env := by rfl) (hp : (backTo pos (starEach es X.env)).any (·.1) = false := by rfl) :
    PD X b (.Call (.Name x p) (e :: es) [] pos) (wCallR ks sp t) := d_callR hk ⟨F.ex⟩ room grd hg args hd hs hp
end
end DL

set_option Elab.async false
set_option maxRecDepth 100000
set_option maxHeartbeats 4000000
/-! DL14: names of built-ins, minus. -/
namespace DL
open PySem PySem.Spec PyProof.Rows L2
theorem bt_len : bootBuiltins "len" = some (.builtin "len") := by decide +kernel
theorem bt_abs : bootBuiltins "abs" = some (.builtin "abs") := by decide +kernel
theorem bt_repr : bootBuiltins "repr" = some (.builtin "repr") := by decide +kernel
theorem bt_isinstance : bootBuiltins "isinstance" = some (.builtin "isinstance") := by decide +kernel
theorem bt_int : bootBuiltins "int" = some (.type "int") := by decide +kernel
theorem bt_str : bootBuiltins "str" = some (.type "str") := by decide +kernel
theorem bt_bool : bootBuiltins "bool" = some (.type "bool") := by decide +kernel
theorem bt_list : bootBuiltins "list" = some (.type "list") := by decide +kernel
theorem bt_tuple : bootBuiltins "tuple" = some (.type "tuple") := by decide +kernel
theorem bt_dict : bootBuiltins "dict" = some (.type "dict") := by decide +kernel
section
variable {X : Cx} {b : Bas} {x : Str} {n : String} {pos : Pos}
/-- a built-in type as a value -/
theorem d_tyN (hg : Gl X x) (hm : X.mg x = none) (hv : bootBuiltins x = some (.type n)) (hn : x ≠ "__name__" := by decide) (hd : (x == ("__debug__" : Str)) = false := by decide) : PD X b (.Name x pos) (wC (.ty n)) := d_c (.ty n) (pe_bltn (v := .ty n) hg hm hv rfl hn hd)
end
def gNeg : D → Option Z
  | .int i => some (.d (.int (-i)))
  | _ => none
theorem o_neg {K : PySem.W.Frag} : Op1 K (rU fun i => .int (-i)) gNeg := fun H G x d z Q xx rx hz k => by
  unfold gNeg at hz
  split at hz
  · cases hz
    obtain rfl := rx.int
    exact ⟨_, rfl, k _ H ⟨rfl, .int _⟩⟩
  · cases hz
/-- a comprehension's block, looked at -/
def blkB (N : List Str) (sc scope : Scope) (own : List (Str × Nat)) : Bool := decide (scope.kind = .function ∧ (∀ y ∈ scope.names, scope.names.lookup y.1 = some y.2) ∧ (∀ p ∈ own, N[p.2]? = some p.1) ∧ (∀ y ∈ scope.names, y.2 = .free → sc.names.lookup y.1 = some .cell ∨ sc.names.lookup y.1 = some .free) ∧
  ∀ y ∈ scope.names, y.2 = .local ∨ y.2 = .cell → y.1 ∈ own.map (·.1) ∨ y.1 ∉ N)
theorem blk_ok {N : List Str} {sc scope : Scope} {own : List (Str × Nat)} (h : blkB N sc scope own = true) : BlkOk N sc scope own := by
  have h := of_decide_eq_true h
  exact ⟨h.1, h.2.1, h.2.2.1, h.2.2.2.1, h.2.2.2.2⟩
theorem u1 {k : Nat} {A : Around} (r : Room k A) : A.units + 1 < cLine := by have := r.un; omega
theorem u64 {k : Nat} {A : Around} (r : Room k A) : A.units + 64 < cLine := by have := r.un; omega
theorem u66 {k : Nat} {A : Around} (r : Room k A) : A.units + 66 < cLine := by have := r.un; omega
/-! ### n += e of whole numbers -/
def gAddN : D → D → Option Z := gInt fAdd
def gSubN : D → D → Option Z := gInt fSub
theorem o_addN {K : PySem.W.Frag} : Op2 K (ipI fun i j => i + j) gAddN := op2_int (fun i j d v H Q e hv q => by cases e; cases hv; exact ⟨i, j, rfl, rfl, q⟩) fun i j d e => by cases e; exact ⟨_, rfl⟩
theorem o_subN {K : PySem.W.Frag} : Op2 K (ipI fun i j => i - j) gSubN := op2_int (fun i j d v H Q e hv q => by cases e; cases hv; exact ⟨i, j, rfl, rfl, q⟩) fun i j d e => by cases e; exact ⟨_, rfl⟩
/-! ### comparisons as tests -/
def bolK (Q : Bool → Rho → Prop) : R → Rho → Prop := fun r ρ => match r with
  | .dat (.bl c) => Q c ρ
  | _ => False
def wBl (t : TD) : TTD := fun ρ Q => t ρ (bolK Q)
theorem bl_go {K : PySem.W.Frag} {b : Bas} {t : TD} {σ : L2.St} {H : Hp} {Q : Bool → Hp → Prop} (q : liftT K b (wBl t) σ H Q) : tTest (lift K b t) σ H Q := by
  obtain ⟨G, ρ, QD, w, q, k⟩ := q
  refine ⟨G, ρ, bolK QD, w, q, fun v H1 G1 r ρ1 w1 m1 q1 z => ?_⟩
  unfold bolK at z
  split at z
  · rename_i c
    have q2 : Rp K G1 v (.bl c) := q1
    cases q2
    exact ⟨c, rfl, k c H1 G1 ρ1 w1 m1 z⟩
  · exact z.elim
section
variable {X : Cx} {b : Bas} {ea eb ec : Expr} {ta tb tc : TD} {pos : Pos}
theorem t_cmp {op : CmpOp} {r : R2} {g : D → D → Option Z} (ho : OpR X (compareOp op) r) (hr : Op2 X.K r g) (ha : PD X b ea ta) (hb : PD X b eb tb) (hm : behindInMarks op eb = false) : PTD X b (.Compare ea [op] [eb] pos) (wBl (wOp g ta tb)) :=
  pt_weak (pt_cmpR ho ha hb hm) fun _ _ _ q => op_go hr (bl_go q)
theorem t_chain {op op' : CmpOp} {r r' : R2} {g g' : D → D → Option Z} (ho : OpR X (compareOp op) r) (ho' : OpR X (compareOp op') r') (hg : Op2 X.K r g) (hg' : Op2 X.K r' g') (ha : PD X b ea ta) (hb : PD X b eb tb) (hc : PD X b ec tc)
    (hm : lastMarks [op, op'] [eb, ec] = false := by with_unfolding_all rfl) : PTD X b (.Compare ea [op, op'] [eb, ec] pos) (wBl (wChain g g' ta tb tc)) :=
  pt_weak (pt_chain ho ho' ha hb hc hm) fun _ _ _ q => chain_go hg hg' (bl_go q)
end
end DL

set_option Elab.async false
set_option maxRecDepth 100000
set_option maxHeartbeats 4000000
/-! DL15: how a def's reading keeps its promise; running readings. -/
namespace DL
open PySem PySem.Spec PyProof.Rows L2
def endsF (n : Nat) (QD : R → List Sl → Prop) : EndsD := { nx := fun ρ => QD (.dat .non) (ρ.take n), rt := fun r ρ => match r with | .bor _ => False | r => QD r (ρ.take n) }
/-- what a def of N names computes keeps the promise -/
def PL (N n : Nat) (rd : List Nat → SD) (sp : DSp) : Prop := ∀ args QD ED, sp args QD ED → args.length = n ∧ rd (ixOf 0 args) (endsF n QD) (args ++ List.replicate (N - n) .no)
theorem endsF_nx {n : Nat} {QD : R → List Sl → Prop} {ρ : Rho} : (endsF n QD).nx ρ = QD (.dat .non) (ρ.take n) := rfl
theorem endsF_dat {n : Nat} {QD : R → List Sl → Prop} {ρ : Rho} {d : D} : (endsF n QD).rt (.dat d) ρ = QD (.dat d) (ρ.take n) := rfl
theorem endsF_own {n : Nat} {QD : R → List Sl → Prop} {ρ : Rho} {o : Own} : (endsF n QD).rt (.own o) ρ = QD (.own o) (ρ.take n) := rfl
theorem PL.fn {P : Program} {w : World} {K : PySem.W.Frag} {mg : Str → Option Value} {base : Heap} {k : Nat} {x qual : Str} {st : Stmt} {f : Addr} {fd : FuncData} {N ps : List Str} {sp : DSp} {rd : List Nat → SD} (p : PL N.length ps.length rd sp) (F : Fun K x qual st f fd) (S : FnScope N ps (defScope st))
    (d : ∀ (cdv : Value) (A : Around) (out : List Env) (s0 : Shared) (H : Hp) (b : Bas) (ks : List Nat) (E : XK), Room k (A.deeper (envOfC qual (defScope st) s0.heap.objs.size f cdv)) → (A.deeper (envOfC qual (defScope st) s0.heap.objs.size f cdv)).guards = some [] → b.kp.map (·.1) = ks →
      PSsD (cxOf CX0 P w K mg base N qual (defScope st) f cdv A out s0 H E).nox b (defBody st) (rd ks)) : FnG P w K mg base CX0 (k + 1) f fd ps (toSp K sp) :=
  fnG_ok F S (fun args QD ED h => (p args QD ED h).1) fun cdv A out s0 H b args QD ED E room grd hk h => by
    obtain ⟨h1, h2⟩ := p args QD ED h
    refine ⟨_, d cdv A out s0 H b _ E room grd hk, ?_⟩
    rw [← h1] at h2
    exact h2
theorem KnownP.up {P : Program} {w : World} {K : PySem.W.Frag} {mg : Str → Option Value} {base : Heap} {k : Nat} {x : Str} {sp : DSp} (h : KnownP P w K mg base k x sp) : KnownP P w K mg base k x sp := h

/-! ### items at written places -/
section
variable {α : Type} {a b c d : α} {l : List α}
theorem atI_0 : atI (a :: l) 0 = some a := by
  unfold atI ixN
  rw [if_pos (Int.le_refl 0), if_pos (show (0 : Int) < ((a :: l).length : Int) by rw [List.length_cons]; omega)]
  rfl
theorem atI_1 : atI (a :: b :: l) 1 = some b := by
  unfold atI ixN
  rw [if_pos (by decide), if_pos (show (1 : Int) < ((a :: b :: l).length : Int) by rw [List.length_cons, List.length_cons]; omega)]
  rfl
theorem atI_2 : atI (a :: b :: c :: l) 2 = some c := by
  unfold atI ixN
  rw [if_pos (by decide), if_pos (show (2 : Int) < ((a :: b :: c :: l).length : Int) by rw [List.length_cons, List.length_cons, List.length_cons]; omega)]
  rfl
theorem atI_3 : atI (a :: b :: c :: d :: l) 3 = some d := by
  unfold atI ixN
  rw [if_pos (by decide), if_pos (show (3 : Int) < ((a :: b :: c :: d :: l).length : Int) by rw [List.length_cons, List.length_cons, List.length_cons, List.length_cons]; omega)]
  rfl
theorem atI_nat {i : Int} {j : Nat} (h : i = (j : Nat)) : atI l i = l[j]? := by
  subst h
  unfold atI ixN
  rw [if_pos (by omega)]
  by_cases hl : j < l.length
  · rw [if_pos (by omega)]; rfl
  · rw [if_neg (by omega), List.getElem?_eq_none (by omega)]; rfl
end
theorem lk_eq {α : Type} {x : Option α} {k : α → Prop} {a : α} (e : x = some a) : lk x k = k a := by rw [e]; rfl
/-! ### == at written forms -/
theorem eqB_nil : gEqB (.lst []) (.lst []) = some true := by simp [gEqB, quick, deepEq, pyD, pyDs, PyData.canLay0, PyData.canLayAll0, PyData.depth, PyData.depthAll, PyData.eqv, PyData.eqvAll]
theorem eqB_cons {d : D} {ds : List D} : gEqB (.lst (d :: ds)) (.lst []) = some false := by simp [gEqB, quick]
theorem eqB_tup0 {l : List D} : gEqB (.tup l) (.tup []) = some l.isEmpty := by cases l <;> simp [gEqB, quick]
theorem eqB_int {i j : Int} : gEqB (.int i) (.int j) = some (i == j) := by simp [gEqB, quick, deepEq, pyD, PyData.canLay0, PyData.depth, PyData.eqv]
theorem eqB_non {j : Int} : gEqB .non (.int j) = some false := by simp [gEqB, quick, deepEq, pyD, PyData.canLay0, PyData.depth, PyData.eqv]
theorem eqB_str {x y : Str} : gEqB (.str x) (.str y) = some (x == y) := rfl
theorem eqB_pair {x y : Str} {i j : Int} (hx : PyData.strOk x = true) (hy : PyData.strOk y = true) : gEqB (.tup [.str x, .int i]) (.tup [.str y, .int j]) = some (x == y && i == j) := by
  simp [gEqB, quick, deepEq, pyD, pyDs, PyData.canLay0, PyData.canLayAll0, PyData.depth, PyData.depthAll, PyData.eqv, PyData.eqvAll, hx, hy]
theorem eqA_eq {neg c : Bool} {d e : D} (h : gEqB d e = some c) : gEqA neg d e = some (.d (.bl (neg != c))) := by unfold gEqA; rw [h]; rfl
theorem bne_f {c : Bool} : (false != c) = c := by cases c <;> rfl
theorem bne_t {c : Bool} : (true != c) = !c := by cases c <;> rfl
theorem eqA_nil {neg : Bool} : gEqA neg (.lst []) (.lst []) = some (.d (.bl (neg != true))) := eqA_eq eqB_nil
theorem eqA_cons {neg : Bool} {d : D} {ds : List D} : gEqA neg (.lst (d :: ds)) (.lst []) = some (.d (.bl (neg != false))) := eqA_eq eqB_cons
theorem eqA_tup0 {neg : Bool} {l : List D} : gEqA neg (.tup l) (.tup []) = some (.d (.bl (neg != l.isEmpty))) := eqA_eq eqB_tup0
theorem eqA_int {neg : Bool} {i j : Int} : gEqA neg (.int i) (.int j) = some (.d (.bl (neg != (i == j)))) := eqA_eq eqB_int
theorem eqA_non {neg : Bool} {j : Int} : gEqA neg .non (.int j) = some (.d (.bl (neg != false))) := eqA_eq eqB_non
theorem eqA_l0 {neg : Bool} {l : List D} : gEqA neg (.lst l) (.lst []) = some (.d (.bl (neg != l.isEmpty))) := by cases l with
  | nil => exact eqA_nil
  | cons d ds => exact eqA_cons
theorem atI_mem {α : Type} {l : List α} {i : Int} (h0 : 0 ≤ i) (h1 : i < (l.length : Int)) : ∃ x, x ∈ l ∧ atI l i = some x ∧ l[i.toNat]? = some x := by
  have h2 : i.toNat < l.length := by omega
  have e : l[i.toNat]? = some l[i.toNat] := List.getElem?_eq_getElem h2
  refine ⟨l[i.toNat], List.getElem_mem h2, ?_, e⟩
  rw [atI_nat (j := i.toNat) (by omega)]
  exact e
theorem atI_map {α β : Type} {l : List α} {f : α → β} {i : Int} (h0 : 0 ≤ i) (h1 : i < (l.length : Int)) : ∃ x, x ∈ l ∧ atI (l.map f) i = some (f x) := by
  obtain ⟨y, h2, h3, _⟩ := atI_mem (l := l.map f) h0 (by rw [List.length_map]; exact h1)
  obtain ⟨x, hx, rfl⟩ := List.mem_map.mp h2
  exact ⟨x, hx, h3⟩
theorem sIx_some {n d k : Nat} : HT.sIx n d (some (k : Int)) = min k n := HT.sIx_nat n d k
theorem cutD_to {l : List D} (k : Nat) : cutD l none (some (k : Int)) = l.take k := by
  unfold cutD
  rw [sIx_some]
  show (l.drop 0).take (min k l.length - 0) = _
  rw [List.drop_zero, Nat.sub_zero]
  by_cases h : k ≤ l.length
  · rw [Nat.min_eq_left h]
  · rw [Nat.min_eq_right (by omega), List.take_of_length_le (by omega), List.take_of_length_le (by omega)]
theorem cutD_from {l : List D} (k : Nat) : cutD l (some (k : Int)) none = l.drop k := by
  unfold cutD
  rw [sIx_some]
  show (l.drop (min k l.length)).take (l.length - min k l.length) = _
  by_cases h : k ≤ l.length
  · rw [Nat.min_eq_left h, List.take_of_length_le (by rw [List.length_drop]; omega)]
  · rw [Nat.min_eq_right (by omega), Nat.sub_self, List.take_zero, List.drop_of_length_le (by omega)]
theorem cutD_mid {l : List D} (a b : Nat) : cutD l (some (a : Int)) (some (b : Int)) = (l.drop a).take (b - a) := by
  unfold cutD
  rw [sIx_some, sIx_some]
  by_cases h : a ≤ l.length
  · rw [Nat.min_eq_left h]
    by_cases h2 : b ≤ l.length
    · rw [Nat.min_eq_left h2]
    · rw [Nat.min_eq_right (by omega), List.take_of_length_le (by rw [List.length_drop]; omega), List.take_of_length_le (by rw [List.length_drop]; omega)]
  · rw [Nat.min_eq_right (a := a) (by omega), List.drop_of_length_le (Nat.le_refl _), List.drop_of_length_le (by omega), List.take_nil, List.take_nil]
theorem ixN_nat {n j : Nat} (h : j < n) : ixN n (j : Int) = some j := by
  unfold ixN
  rw [if_pos (by omega), if_pos (by omega)]
  rfl
theorem ixN_int {n : Nat} {i : Int} (h0 : 0 ≤ i) (h : i < (n : Int)) : ixN n i = some i.toNat := by
  unfold ixN
  rw [if_pos h0, if_pos h]
theorem popAt_ok {l : List D} {i : Int} (h0 : 0 ≤ i) (h1 : i < (l.length : Int)) (hz : l.length < 1000000) : ∃ x, l[i.toNat]? = some x ∧ gPopAt l [.int i] = some (l.eraseIdx i.toNat, x) := by
  have h2 : i.toNat < l.length := by omega
  have e : l[i.toNat]? = some l[i.toNat] := List.getElem?_eq_getElem h2
  refine ⟨l[i.toNat], e, ?_⟩
  unfold gPopAt
  dsimp only
  rw [if_pos (by omega)]
  have e2 : seqIndex? i l.length = some i.toNat := (ixN_seq (ixN_int h0 h1)).1
  rw [e2, Option.bind_some, e]
  rfl
theorem pop_ok {l : List D} {d : D} : gPop (l ++ [d]) [] = some (l, d) := by
  unfold gPop
  dsimp only
  rw [List.length_append, List.length_singleton, Nat.add_sub_cancel, List.getElem?_append_right (Nat.le_refl _), Nat.sub_self, List.dropLast_concat]
  rfl
/-! ### tables looked up -/
theorem lookKD_nil {k : Key} : lookKD [] k = none := rfl
theorem lookKD_cons {p : Key × D} {r : List (Key × D)} {k : Key} : lookKD (p :: r) k = if p.1 = k then some p.2 else lookKD r k := by
  unfold lookKD
  rw [List.find?_cons]
  by_cases e : p.1 = k
  · rw [if_pos e, decide_eq_true e]; rfl
  · rw [if_neg e, decide_eq_false e]
theorem lookKD_any (k : Key) : ∀ kvs : List (Key × D), (kvs.any fun kv => decide (kv.1 = k)) = (lookKD kvs k).isSome
  | [] => rfl
  | p :: r => by
    rw [List.any_cons, lookKD_cons, lookKD_any k r]
    by_cases e : p.1 = k
    · rw [if_pos e, decide_eq_true e]; rfl
    · rw [if_neg e, decide_eq_false e, Bool.false_or]
theorem lookKD_map (k j : Key) (y : D) : ∀ kvs : List (Key × D), lookKD (kvs.map fun kv => if kv.1 = k then (kv.1, y) else kv) j = (lookKD kvs j).map fun x => if j = k then y else x
  | [] => rfl
  | p :: r => by
    rw [List.map_cons, lookKD_cons, lookKD_cons, lookKD_map k j y r]
    by_cases e : p.1 = k
    · rw [if_pos e]
      by_cases e2 : p.1 = j
      · rw [if_pos e2, if_pos e2, Option.map_some, if_pos (by rw [← e2]; exact e)]
      · rw [if_neg e2, if_neg e2]
    · rw [if_neg e]
      by_cases e2 : p.1 = j
      · rw [if_pos e2, if_pos e2, Option.map_some, if_neg (by rw [← e2]; exact e)]
      · rw [if_neg e2, if_neg e2]
theorem lookKD_snoc (k j : Key) (y : D) : ∀ kvs : List (Key × D), lookKD (kvs ++ [(k, y)]) j = match lookKD kvs j with
    | some x => some x
    | none => if k = j then some y else none
  | [] => by rw [List.nil_append, lookKD_cons]; rfl
  | p :: r => by
    rw [List.cons_append, lookKD_cons, lookKD_cons, lookKD_snoc k j y r]
    by_cases e : p.1 = j
    · rw [if_pos e, if_pos e]
    · rw [if_neg e, if_neg e]
theorem lookKD_put {kvs : List (Key × D)} {k j : Key} {v : D} : lookKD (putKD kvs k v) j = if k = j then some v else lookKD kvs j := by
  unfold putKD
  rw [lookKD_any]
  by_cases e : k = j
  · subst e
    rw [if_pos rfl]
    cases h : lookKD kvs k with
    | none =>
      rw [if_neg (by simp), lookKD_snoc, h]
      show (if k = k then some v else none) = _
      rw [if_pos rfl]
    | some x => rw [if_pos (by simp), lookKD_map, h, Option.map_some, if_pos rfl]
  · rw [if_neg e]
    split
    · rw [lookKD_map]
      cases lookKD kvs j with
      | none => rfl
      | some x => rw [Option.map_some, if_neg (fun z => e z.symm)]
    · rw [lookKD_snoc]
      cases lookKD kvs j with
      | none => show (if k = j then some v else none) = _; rw [if_neg e]
      | some x => rfl
theorem mergeKD_out {j : Key} : ∀ {ps : List (Key × D)} {kvs : List (Key × D)}, (∀ p ∈ ps, p.1 ≠ j) → lookKD (mergeKD kvs ps) j = lookKD kvs j
  | [], kvs, _ => rfl
  | p :: ps, kvs, h => by
    show lookKD (mergeKD (putKD kvs p.1 p.2) ps) j = _
    rw [mergeKD_out fun q hq => h q (List.mem_cons_of_mem _ hq), lookKD_put, if_neg (h p List.mem_cons_self)]
theorem mergeKD_in {j : Key} {v : D} : ∀ {ps : List (Key × D)} {kvs : List (Key × D)}, (ps.map (·.1)).Nodup → (j, v) ∈ ps → lookKD (mergeKD kvs ps) j = some v
  | [], kvs, _, h => by cases h
  | p :: ps, kvs, nd, h => by
    rw [List.map_cons, List.nodup_cons] at nd
    show lookKD (mergeKD (putKD kvs p.1 p.2) ps) j = _
    rcases List.mem_cons.mp h with e | h
    · subst e
      rw [mergeKD_out fun q hq e => nd.1 (List.mem_map.mpr ⟨q, hq, e⟩), lookKD_put, if_pos rfl]
    · exact mergeKD_in nd.2 h
end DL

set_option Elab.async false
set_option maxRecDepth 100000
set_option maxHeartbeats 4000000
/-! DL16: readings run from the head: every continuation is a named function, so that nothing behind it is looked at before its turn. -/
namespace DL
open PySem PySem.Spec PyProof.Rows L2
section
variable {α : Type} {ρ ρ1 ρ2 ρ3 : Rho} {Q : R → Rho → Prop} {QT : Bool → Rho → Prop} {QA : List R → Rho → Prop} {QI : List D → Rho → Prop} {QH : Rho → Prop} {i n : Nat} {d e : D} {o : Own} {r r1 r2 : R} {rs : List R} {ds : List D} {ks vs is : List Nat} {ta tb tc : TD} {t u : TTD} {tA : TAD} {s s' : SD} {DD : EndsD} {c : Bool} {g : D → D → Option Z} {z : Z} {sp : DSp}
/-- the ends of what stands ahead of t; of a loop's body -/
def seqE (t : SD) (DD : EndsD) : EndsD := { DD with nx := t DD }
def loopE (nx : Rho → Prop) (DD : EndsD) : EndsD := { DD with nx := nx, ct := nx, bk := DD.nx }
theorem seqE_nx : (seqE s DD).nx ρ = s DD ρ := rfl
theorem seqE_rt : (seqE s DD).rt = DD.rt := rfl
theorem seqE_bk : (seqE s DD).bk = DD.bk := rfl
theorem seqE_ct : (seqE s DD).ct = DD.ct := rfl
theorem loopE_nx : (loopE QH DD).nx = QH := rfl
theorem loopE_rt : (loopE QH DD).rt = DD.rt := rfl
theorem loopE_bk : (loopE QH DD).bk = DD.nx := rfl
theorem loopE_ct : (loopE QH DD).ct = QH := rfl
theorem e_seq : wSeq s s' DD ρ = s (seqE s' DD) ρ := rfl
theorem e_next : wNext DD ρ = DD.nx ρ := rfl
theorem e_break : wBreak DD ρ = DD.bk ρ := rfl
theorem e_cont : wCont DD ρ = DD.ct ρ := rfl
theorem e_retN : wRetN DD ρ = DD.rt (.dat .non) ρ := rfl
/-- names -/
def qVar (i : Nat) (ρ : Rho) (Q : R → Rho → Prop) : Option Sl → Prop
  | some (.dat d) => Q (.dat d) ρ
  | some (.own _) => Q (.bor i) ρ
  | _ => False
theorem e_var : wVar i ρ Q = qVar i ρ Q ρ[i]? := by unfold wVar qVar; rfl
theorem q_var_d : qVar i ρ Q (some (.dat d)) = Q (.dat d) ρ := rfl
theorem q_var_o : qVar i ρ Q (some (.own o)) = Q (.bor i) ρ := rfl
theorem e_c : wC d ρ Q = Q (.dat d) ρ := rfl
def conS : Option Sl → Option D
  | some (.own o) => some o.d
  | some (.dat d) => some d
  | _ => none
theorem con_d : con ρ (.dat d) = some d := rfl
theorem con_o : con ρ (.own o) = some o.d := rfl
theorem con_b : con ρ (.bor i) = conS ρ[i]? := by unfold con conS; rfl
theorem conS_d : conS (some (.dat d)) = some d := rfl
theorem conS_o : conS (some (.own o)) = some o.d := rfl
theorem own_l : (Own.lst ds).d = .lst ds := rfl
theorem own_d {l : List (Key × D)} : (Own.dct l).d = .dct l := rfl
theorem own_i {C : Addr} {l : List (Str × D)} : (Own.ins C l).d = .ins C l := rfl
theorem z_d : (Z.d d).r = .dat d := rfl
theorem z_n : (Z.n o).r = .own o := rfl
theorem z_t : (Z.t ds).r = .dat (.tup ds) := rfl
theorem z_w : (Z.w ds).r = .dat (.wt ds) := rfl
theorem sl_d : (R.dat d).sl = .dat d := rfl
theorem sl_o : (R.own o).sl = .own o := rfl
def qFrz (i : Nat) (ρ : Rho) : Option Sl → Option (D × Rho)
  | some (.own o) => some (o.d, ρ.set i (.dat o.d))
  | some (.dat x) => some (x, ρ)
  | _ => none
theorem frz_d : frz ks (.dat d) ρ = some (d, ρ) := rfl
theorem frz_o : frz ks (.own o) ρ = some (o.d, ρ) := rfl
theorem frz_b : frz ks (.bor i) ρ = if i ∈ ks then none else qFrz i ρ ρ[i]? := by unfold frz qFrz; rfl
theorem q_frz_d : qFrz i ρ (some (.dat d)) = some (d, ρ) := rfl
theorem q_frz_o : qFrz i ρ (some (.own o)) = some (o.d, ρ.set i (.dat o.d)) := rfl
def kFz (r : D) (q : List D × Rho) : List D × Rho := (r :: q.1, q.2)
def kFzs (ks : List Nat) (rs : List R) (p : D × Rho) : Option (List D × Rho) := (frzs ks rs p.2).map (kFz p.1)
theorem frzs_nil : frzs ks [] ρ = some ([], ρ) := rfl
theorem frzs_cons : frzs ks (r :: rs) ρ = (frz ks r ρ).bind (kFzs ks rs) := rfl
theorem k_fzs : kFzs ks rs (d, ρ) = (frzs ks rs ρ).map (kFz d) := rfl
theorem k_fz : kFz d (ds, ρ) = (d :: ds, ρ) := rfl
theorem thin_d : thin ks (.dat d) ρ = some (.dat d, ρ) := rfl
theorem thin_o : thin ks (.own o) ρ = some (.own o, ρ) := rfl
def kTh (p : D × Rho) : R × Rho := (.dat p.1, p.2)
theorem thin_b : thin ks (.bor i) ρ = (frz ks (.bor i) ρ).map kTh := rfl
theorem k_th : kTh (d, ρ) = (.dat d, ρ) := rfl
def kTs (r : R) (q : List R × Rho) : List R × Rho := (r :: q.1, q.2)
def kThs (ks : List Nat) (rs : List R) (p : R × Rho) : Option (List R × Rho) := (thins ks rs p.2).map (kTs p.1)
theorem thins_nil : thins ks [] ρ = some ([], ρ) := rfl
theorem thins_cons : thins ks (r :: rs) ρ = (thin ks r ρ).bind (kThs ks rs) := rfl
theorem k_ths : kThs ks rs (r, ρ) = (thins ks rs ρ).map (kTs r) := rfl
theorem k_ts : kTs r (rs, ρ) = (r :: rs, ρ) := rfl
theorem setR_nil : setR [] rs ρ = ρ := by cases rs <;> rfl
theorem setR_cons : setR (i :: is) (r :: rs) ρ = setR is rs (ρ.set i r.sl) := rfl
/-- operations -/
def kE (Q : R → Rho → Prop) (ρ : Rho) (z : Z) : Prop := Q z.r ρ
theorem k_e : kE Q ρ z = Q z.r ρ := rfl
def kOp4 (g : D → D → Option Z) (d1 : D) (Q : R → Rho → Prop) (ρ2 : Rho) (d2 : D) : Prop := lk (g d1 d2) (kE Q ρ2)
def kOp3 (g : D → D → Option Z) (r2 : R) (Q : R → Rho → Prop) (ρ2 : Rho) (d1 : D) : Prop := lk (con ρ2 r2) (kOp4 g d1 Q ρ2)
def kOp2 (g : D → D → Option Z) (r1 : R) (Q : R → Rho → Prop) (r2 : R) (ρ2 : Rho) : Prop := lk (con ρ2 r1) (kOp3 g r2 Q ρ2)
def kOp1 (g : D → D → Option Z) (tb : TD) (Q : R → Rho → Prop) (r1 : R) (ρ1 : Rho) : Prop := tb ρ1 (kOp2 g r1 Q)
theorem e_op : wOp g ta tb ρ Q = ta ρ (kOp1 g tb Q) := rfl
theorem k_op1 : kOp1 g tb Q r1 ρ1 = tb ρ1 (kOp2 g r1 Q) := rfl
theorem k_op2 : kOp2 g r1 Q r2 ρ2 = lk (con ρ2 r1) (kOp3 g r2 Q ρ2) := rfl
theorem k_op3 : kOp3 g r2 Q ρ2 d = lk (con ρ2 r2) (kOp4 g d Q ρ2) := rfl
theorem k_op4 : kOp4 g d Q ρ2 e = lk (g d e) (kE Q ρ2) := rfl
def kUn2 (h : D → Option Z) (Q : R → Rho → Prop) (ρ : Rho) (d : D) : Prop := lk (h d) (kE Q ρ)
def kUn1 (h : D → Option Z) (Q : R → Rho → Prop) (r : R) (ρ : Rho) : Prop := lk (con ρ r) (kUn2 h Q ρ)
theorem e_un {h : D → Option Z} : wUn h ta ρ Q = ta ρ (kUn1 h Q) := rfl
theorem k_un1 {h : D → Option Z} : kUn1 h Q r ρ = lk (con ρ r) (kUn2 h Q ρ) := rfl
theorem k_un2 {h : D → Option Z} : kUn2 h Q ρ d = lk (h d) (kE Q ρ) := rfl
/-- argument lists -/
def kCo2 (r : R) (Q : List R → Rho → Prop) (rs : List R) (ρ : Rho) : Prop := Q (r :: rs) ρ
def kCo1 (tr : TAD) (Q : List R → Rho → Prop) (r : R) (ρ1 : Rho) : Prop := tr ρ1 (kCo2 r Q)
theorem e_nil : wNil ρ QA = QA [] ρ := rfl
theorem e_cons : wCons ta tA ρ QA = ta ρ (kCo1 tA QA) := rfl
theorem k_co1 : kCo1 tA QA r ρ = tA ρ (kCo2 r QA) := rfl
theorem k_co2 : kCo2 r QA rs ρ = QA (r :: rs) ρ := rfl
theorem conL_nil : conL ρ [] = some [] := rfl
def kCl2 (d : D) (ds : List D) : List D := d :: ds
def kCl (ρ : Rho) (rs : List R) (d : D) : Option (List D) := (conL ρ rs).map (kCl2 d)
theorem conL_cons : conL ρ (r :: rs) = (con ρ r).bind (kCl ρ rs) := rfl
theorem k_cl : kCl ρ rs d = (conL ρ rs).map (kCl2 d) := rfl
theorem k_cl2 : kCl2 d ds = d :: ds := rfl
def kB2 (h : List D → Option Z) (Q : R → Rho → Prop) (ρ : Rho) (ds : List D) : Prop := lk (h ds) (kE Q ρ)
def kB1 (h : List D → Option Z) (Q : R → Rho → Prop) (rs : List R) (ρ : Rho) : Prop := lk (conL ρ rs) (kB2 h Q ρ)
theorem e_b {h : List D → Option Z} : wB h tA ρ Q = tA ρ (kB1 h Q) := rfl
theorem k_b1 {h : List D → Option Z} : kB1 h Q rs ρ = lk (conL ρ rs) (kB2 h Q ρ) := rfl
theorem k_b2 {h : List D → Option Z} : kB2 h Q ρ ds = lk (h ds) (kE Q ρ) := rfl
def kTup2 (Q : R → Rho → Prop) (p : List D × Rho) : Prop := p.1.length ≤ sizeLine ∧ Q (.dat (.tup p.1)) p.2
def kTup1 (ks : List Nat) (Q : R → Rho → Prop) (rs : List R) (ρ : Rho) : Prop := lk (frzs ks rs ρ) (kTup2 Q)
theorem e_tup : wTup ks tA ρ Q = tA ρ (kTup1 ks Q) := rfl
theorem k_tup1 : kTup1 ks Q rs ρ = lk (frzs ks rs ρ) (kTup2 Q) := rfl
theorem k_tup2 : kTup2 Q (ds, ρ) = (ds.length ≤ sizeLine ∧ Q (.dat (.tup ds)) ρ) := rfl
def kLst2 (Q : R → Rho → Prop) (p : List D × Rho) : Prop := p.1.length ≤ sizeLine ∧ Q (.own (.lst p.1)) p.2
def kLst1 (ks : List Nat) (Q : R → Rho → Prop) (rs : List R) (ρ : Rho) : Prop := lk (frzs ks rs ρ) (kLst2 Q)
theorem e_lst : wLst ks tA ρ Q = tA ρ (kLst1 ks Q) := rfl
theorem k_lst1 : kLst1 ks Q rs ρ = lk (frzs ks rs ρ) (kLst2 Q) := rfl
theorem k_lst2 : kLst2 Q (ds, ρ) = (ds.length ≤ sizeLine ∧ Q (.own (.lst ds)) ρ) := rfl
theorem e_dct0 : wDct0 ρ Q = Q (.own (.dct [])) ρ := rfl
/-- calls -/
def noX : Xc → List Sl → Prop := fun _ _ => False
def kRetQ (Q : R → Rho → Prop) (ρ : Rho) (r : R) (_ : List Sl) : Prop := Q r ρ
theorem k_ret {a : List Sl} : kRetQ Q ρ r a = Q r ρ := rfl
def kCa2 (sp : DSp) (Q : R → Rho → Prop) (p : List D × Rho) : Prop := sp (p.1.map .dat) (kRetQ Q p.2) noX
def kCa1 (ks : List Nat) (sp : DSp) (Q : R → Rho → Prop) (rs : List R) (ρ : Rho) : Prop := lk (frzs ks rs ρ) (kCa2 sp Q)
theorem e_call : wCall ks sp tA ρ Q = tA ρ (kCa1 ks sp Q) := rfl
theorem k_ca1 : kCa1 ks sp Q rs ρ = lk (frzs ks rs ρ) (kCa2 sp Q) := rfl
theorem k_ca2 : kCa2 sp Q (ds, ρ) = sp (ds.map .dat) (kRetQ Q ρ) noX := rfl
def kRetR (i : Nat) (ρ : Rho) (Q : R → Rho → Prop) (r : R) : List Sl → Prop
  | .own o' :: _ => Q r (ρ.set i (.own o'))
  | _ => False
theorem k_retR {a : List Sl} : kRetR i ρ Q r (.own o :: a) = Q r (ρ.set i (.own o)) := rfl
def qCr3 (i : Nat) (ds : List D) (ρ : Rho) (sp : DSp) (Q : R → Rho → Prop) : Option Sl → Prop
  | some (.own o) => sp (.own o :: ds.map .dat) (kRetR i ρ Q) noX
  | _ => False
def kCr2 (i : Nat) (sp : DSp) (Q : R → Rho → Prop) (p : List D × Rho) : Prop := qCr3 i p.1 p.2 sp Q p.2[i]?
def kCr1 (ks : List Nat) (sp : DSp) (Q : R → Rho → Prop) (rs : List R) (ρ : Rho) : Prop := match rs with
  | .bor i :: rest => lk (frzs ks rest ρ) (kCr2 i sp Q)
  | _ => False
theorem e_callR : wCallR ks sp tA ρ Q = tA ρ (kCr1 ks sp Q) := by
  unfold wCallR
  congr 1
theorem k_cr1 : kCr1 ks sp Q (.bor i :: rs) ρ = lk (frzs ks rs ρ) (kCr2 i sp Q) := rfl
theorem k_cr2 : kCr2 i sp Q (ds, ρ) = qCr3 i ds ρ sp Q ρ[i]? := rfl
theorem k_cr3 : qCr3 i ds ρ sp Q (some (.own o)) = sp (.own o :: ds.map .dat) (kRetR i ρ Q) noX := rfl
/-- tests -/
def kTr3 (Q : Bool → Rho → Prop) (ρ : Rho) (c : Bool) : Prop := Q c ρ
def kTr2 (Q : Bool → Rho → Prop) (ρ : Rho) (d : D) : Prop := lk (truD d) (kTr3 Q ρ)
def kTr1 (Q : Bool → Rho → Prop) (r : R) (ρ : Rho) : Prop := lk (con ρ r) (kTr2 Q ρ)
theorem e_tr : wTr ta ρ QT = ta ρ (kTr1 QT) := rfl
theorem k_tr1 : kTr1 QT r ρ = lk (con ρ r) (kTr2 QT ρ) := rfl
theorem k_tr2 : kTr2 QT ρ d = lk (truD d) (kTr3 QT ρ) := rfl
theorem k_tr3 : kTr3 QT ρ c = QT c ρ := rfl
theorem e_bl : wBl ta ρ QT = ta ρ (bolK QT) := rfl
theorem k_bl : bolK QT (.dat (.bl c)) ρ = QT c ρ := rfl
def kAnd (u : TTD) (Q : Bool → Rho → Prop) (c : Bool) (ρ : Rho) : Prop := if c = true then u ρ Q else Q false ρ
def kOr (u : TTD) (Q : Bool → Rho → Prop) (c : Bool) (ρ : Rho) : Prop := if c = true then Q true ρ else u ρ Q
def kNot (Q : Bool → Rho → Prop) (c : Bool) (ρ : Rho) : Prop := Q (!c) ρ
def kIf (ta tb : TD) (Q : R → Rho → Prop) (c : Bool) (ρ : Rho) : Prop := if c = true then ta ρ Q else tb ρ Q
def kIfS (s s' : SD) (DD : EndsD) (c : Bool) (ρ : Rho) : Prop := if c = true then s DD ρ else s' DD ρ
theorem e_and : wAnd t u ρ QT = t ρ (kAnd u QT) := rfl
theorem k_and : kAnd u QT c ρ = if c = true then u ρ QT else QT false ρ := rfl
theorem e_or : wOr t u ρ QT = t ρ (kOr u QT) := rfl
theorem k_or : kOr u QT c ρ = if c = true then QT true ρ else u ρ QT := rfl
theorem e_not : wNot t ρ QT = t ρ (kNot QT) := rfl
theorem k_not : kNot QT c ρ = QT (!c) ρ := rfl
theorem e_if : wIf t ta tb ρ Q = t ρ (kIf ta tb Q) := rfl
theorem k_if : kIf ta tb Q c ρ = if c = true then ta ρ Q else tb ρ Q := rfl
theorem e_ifS : wIfS t s s' DD ρ = t ρ (kIfS s s' DD) := rfl
theorem k_ifS : kIfS s s' DD c ρ = if c = true then s DD ρ else s' DD ρ := rfl
def kNv2 (Q : R → Rho → Prop) (ρ : Rho) (c : Bool) : Prop := Q (.dat (.bl (!c))) ρ
def kNv1 (Q : R → Rho → Prop) (r : R) (ρ : Rho) : Prop := lk ((con ρ r).bind bD) (kNv2 Q ρ)
theorem e_notV : wNotV ta ρ Q = ta ρ (kNv1 Q) := rfl
theorem k_nv1 : kNv1 Q r ρ = lk ((con ρ r).bind bD) (kNv2 Q ρ) := rfl
theorem k_nv2 : kNv2 Q ρ c = Q (.dat (.bl (!c))) ρ := rfl
def kAv2 (tb : TD) (Q : R → Rho → Prop) (ρ : Rho) (c : Bool) : Prop := if c = true then tb ρ Q else Q (.dat (.bl false)) ρ
def kAv1 (tb : TD) (Q : R → Rho → Prop) (r : R) (ρ : Rho) : Prop := lk ((con ρ r).bind bD) (kAv2 tb Q ρ)
theorem e_andV : wAndV ta tb ρ Q = ta ρ (kAv1 tb Q) := rfl
theorem k_av1 : kAv1 tb Q r ρ = lk ((con ρ r).bind bD) (kAv2 tb Q ρ) := rfl
theorem k_av2 : kAv2 tb Q ρ c = if c = true then tb ρ Q else Q (.dat (.bl false)) ρ := rfl
def kOv2 (tb : TD) (Q : R → Rho → Prop) (ρ : Rho) (c : Bool) : Prop := if c = true then Q (.dat (.bl true)) ρ else tb ρ Q
def kOv1 (tb : TD) (Q : R → Rho → Prop) (r : R) (ρ : Rho) : Prop := lk ((con ρ r).bind bD) (kOv2 tb Q ρ)
theorem e_orV : wOrV ta tb ρ Q = ta ρ (kOv1 tb Q) := rfl
theorem k_ov1 : kOv1 tb Q r ρ = lk ((con ρ r).bind bD) (kOv2 tb Q ρ) := rfl
theorem k_ov2 : kOv2 tb Q ρ c = if c = true then Q (.dat (.bl true)) ρ else tb ρ Q := rfl
theorem bD_bl : bD (.bl c) = some c := rfl
/-- slices -/
def kSl4 (g : D → Option Int → Option Int → Option Z) (lo hi : Option Int) (Q : R → Rho → Prop) (ρ : Rho) (d : D) : Prop := lk (g d lo hi) (kE Q ρ)
def kSl3 (g : D → Option Int → Option Int → Option Z) (r : R) (lo : Option Int) (Q : R → Rho → Prop) (hi : Option Int) (ρ : Rho) : Prop := lk (con ρ r) (kSl4 g lo hi Q ρ)
def kSl2 (g : D → Option Int → Option Int → Option Z) (th : Rho → (Option Int → Rho → Prop) → Prop) (r : R) (Q : R → Rho → Prop) (lo : Option Int) (ρ : Rho) : Prop := th ρ (kSl3 g r lo Q)
def kSl1 (g : D → Option Int → Option Int → Option Z) (tl th : Rho → (Option Int → Rho → Prop) → Prop) (Q : R → Rho → Prop) (r : R) (ρ : Rho) : Prop := tl ρ (kSl2 g th r Q)
theorem e_sl {g : D → Option Int → Option Int → Option Z} {tl th : Rho → (Option Int → Rho → Prop) → Prop} : wSl g ta tl th ρ Q = ta ρ (kSl1 g tl th Q) := rfl
theorem k_sl1 {g : D → Option Int → Option Int → Option Z} {tl th : Rho → (Option Int → Rho → Prop) → Prop} : kSl1 g tl th Q r ρ = tl ρ (kSl2 g th r Q) := rfl
theorem k_sl2 {g : D → Option Int → Option Int → Option Z} {th : Rho → (Option Int → Rho → Prop) → Prop} {lo : Option Int} : kSl2 g th r Q lo ρ = th ρ (kSl3 g r lo Q) := rfl
theorem k_sl3 {g : D → Option Int → Option Int → Option Z} {lo hi : Option Int} : kSl3 g r lo Q hi ρ = lk (con ρ r) (kSl4 g lo hi Q ρ) := rfl
theorem k_sl4 {g : D → Option Int → Option Int → Option Z} {lo hi : Option Int} : kSl4 g lo hi Q ρ d = lk (g d lo hi) (kE Q ρ) := rfl
def kPt2 (Q : Option Int → Rho → Prop) (ρ : Rho) : D → Prop
  | .int i => Q (some i) ρ
  | _ => False
def kPt1 (Q : Option Int → Rho → Prop) (r : R) (ρ : Rho) : Prop := lk (con ρ r) (kPt2 Q ρ)
theorem e_part {Q : Option Int → Rho → Prop} : wPart ta ρ Q = ta ρ (kPt1 Q) := by
  unfold wPart
  congr 1
theorem k_pt1 {Q : Option Int → Rho → Prop} : kPt1 Q r ρ = lk (con ρ r) (kPt2 Q ρ) := rfl
theorem k_pt2 {Q : Option Int → Rho → Prop} {j : Int} : kPt2 Q ρ (.int j) = Q (some j) ρ := rfl
theorem e_noP {Q : Option Int → Rho → Prop} : wNoP ρ Q = Q none ρ := rfl
/-- d.get(k) -/
def kGe4 (l : List (Key × D)) (Q : R → Rho → Prop) (ρ : Rho) (k : Key) : Prop := Q (.dat ((lookKD l k).getD .non)) ρ
def kGe3 (r2 : R) (Q : R → Rho → Prop) (ρ : Rho) (l : List (Key × D)) : Prop := lk ((con ρ r2).bind keyD) (kGe4 l Q ρ)
def kGe2 (r : R) (Q : R → Rho → Prop) (r2 : R) (ρ : Rho) : Prop := lk ((con ρ r).bind dctD) (kGe3 r2 Q ρ)
def kGe1b (tb : TD) (r : R) (Q : R → Rho → Prop) (ρ : Rho) (_ : List (Key × D)) : Prop := tb ρ (kGe2 r Q)
def kGe1 (tb : TD) (Q : R → Rho → Prop) (r : R) (ρ : Rho) : Prop := lk ((con ρ r).bind dctD) (kGe1b tb r Q ρ)
theorem e_dget : wDGet1 ta tb ρ Q = ta ρ (kGe1 tb Q) := rfl
theorem k_ge1 : kGe1 tb Q r ρ = lk ((con ρ r).bind dctD) (kGe1b tb r Q ρ) := rfl
theorem k_ge1b {l : List (Key × D)} : kGe1b tb r Q ρ l = tb ρ (kGe2 r Q) := rfl
theorem k_ge2 : kGe2 r Q r2 ρ = lk ((con ρ r).bind dctD) (kGe3 r2 Q ρ) := rfl
theorem k_ge3 {l : List (Key × D)} : kGe3 r2 Q ρ l = lk ((con ρ r2).bind keyD) (kGe4 l Q ρ) := rfl
theorem k_ge4 {l : List (Key × D)} {k : Key} : kGe4 l Q ρ k = Q (.dat ((lookKD l k).getD .non)) ρ := rfl
theorem dctD_d {l : List (Key × D)} : dctD (.dct l) = some l := rfl
theorem keyD_i {j : Int} : keyD (.int j) = some (.inl j) := rfl
theorem keyD_s {x : Str} : keyD (.str x) = some (.inr x) := rfl
/-- methods, stores -/
def kMu4 (i : Nat) (ρ : Rho) (Q : R → Rho → Prop) (q : List D × D) : Prop := Q (.dat q.2) (ρ.set i (.own (.lst q.1)))
def qMu3 (i : Nat) (h : List D → List D → Option (List D × D)) (ds : List D) (ρ : Rho) (Q : R → Rho → Prop) : Option Sl → Prop
  | some (.own (.lst l)) => lk (h l ds) (kMu4 i ρ Q)
  | _ => False
def kMu2 (i : Nat) (h : List D → List D → Option (List D × D)) (Q : R → Rho → Prop) (p : List D × Rho) : Prop := qMu3 i h p.1 p.2 Q p.2[i]?
def kMu1 (ks : List Nat) (i : Nat) (h : List D → List D → Option (List D × D)) (Q : R → Rho → Prop) (rs : List R) (ρ : Rho) : Prop := lk (frzs ks rs ρ) (kMu2 i h Q)
def qMu0 (ks : List Nat) (i : Nat) (h : List D → List D → Option (List D × D)) (tA : TAD) (ρ : Rho) (Q : R → Rho → Prop) : Option Sl → Prop
  | some (.own (.lst _)) => tA ρ (kMu1 ks i h Q)
  | _ => False
theorem e_mut {h : List D → List D → Option (List D × D)} : wMut ks i h tA ρ Q = qMu0 ks i h tA ρ Q ρ[i]? := by
  unfold wMut qMu0
  cases ρ[i]? with
  | none => rfl
  | some s => cases s with
    | no => rfl
    | dat d => rfl
    | own o => cases o with
      | lst l =>
        show tA _ _ = tA _ _
        congr 1
      | dct l => rfl
      | ins C l => rfl
theorem q_mu0 {h : List D → List D → Option (List D × D)} {l : List D} : qMu0 ks i h tA ρ Q (some (.own (.lst l))) = tA ρ (kMu1 ks i h Q) := rfl
theorem k_mu1 {h : List D → List D → Option (List D × D)} : kMu1 ks i h Q rs ρ = lk (frzs ks rs ρ) (kMu2 i h Q) := rfl
theorem k_mu2 {h : List D → List D → Option (List D × D)} : kMu2 i h Q (ds, ρ) = qMu3 i h ds ρ Q ρ[i]? := rfl
theorem q_mu3 {h : List D → List D → Option (List D × D)} {l : List D} : qMu3 i h ds ρ Q (some (.own (.lst l))) = lk (h l ds) (kMu4 i ρ Q) := rfl
theorem k_mu4 {l : List D} : kMu4 i ρ Q (l, d) = Q (.dat d) (ρ.set i (.own (.lst l))) := rfl
def kPu5 (i : Nat) (d : D) (ρ : Rho) (l : List D) (DD : EndsD) (j : Nat) : Prop := DD.nx (ρ.set i (.own (.lst (l.set j d))))
def qPu4 (i : Nat) (d : D) (ρ : Rho) (DD : EndsD) : D → Option Sl → Prop
  | .int k, some (.own (.lst l)) => lk (ixN l.length k) (kPu5 i d ρ l DD)
  | _, _ => False
def kPu4 (i : Nat) (d : D) (ρ : Rho) (DD : EndsD) (dk : D) : Prop := qPu4 i d ρ DD dk ρ[i]?
def kPu3 (i : Nat) (d : D) (DD : EndsD) (rk : R) (ρ : Rho) : Prop := lk (con ρ rk) (kPu4 i d ρ DD)
def kPu2 (i : Nat) (ti : TD) (DD : EndsD) (p : D × Rho) : Prop := (∃ l0, p.2[i]? = some (.own (.lst l0))) ∧ ti p.2 (kPu3 i p.1 DD)
def kPu1 (ks : List Nat) (i : Nat) (ti : TD) (DD : EndsD) (r : R) (ρ : Rho) : Prop := lk (frz ks r ρ) (kPu2 i ti DD)
theorem e_put : wPut ks i ta tb DD ρ = tb ρ (kPu1 ks i ta DD) := by
  unfold wPut
  congr 1
theorem k_pu1 : kPu1 ks i ta DD r ρ = lk (frz ks r ρ) (kPu2 i ta DD) := rfl
theorem k_pu2 : kPu2 i ta DD (d, ρ) = ((∃ l0, ρ[i]? = some (.own (.lst l0))) ∧ ta ρ (kPu3 i d DD)) := rfl
theorem k_pu3 : kPu3 i d DD r ρ = lk (con ρ r) (kPu4 i d ρ DD) := rfl
theorem k_pu4 : kPu4 i d ρ DD e = qPu4 i d ρ DD e ρ[i]? := rfl
theorem q_pu4 {k : Int} {l : List D} : qPu4 i d ρ DD (.int k) (some (.own (.lst l))) = lk (ixN l.length k) (kPu5 i d ρ l DD) := rfl
theorem k_pu5 {l : List D} {j : Nat} : kPu5 i d ρ l DD j = DD.nx (ρ.set i (.own (.lst (l.set j d)))) := rfl
def kAu3 (ks : List Nat) (i : Nat) (DD : EndsD) (ρ : Rho) (z : Z) : Prop := if i ∈ ks then False else DD.nx (ρ.set i z.r.sl)
def kAu2 (ks : List Nat) (i : Nat) (g : D → D → Option Z) (d0 : D) (DD : EndsD) (ρ : Rho) (d : D) : Prop := lk (g d0 d) (kAu3 ks i DD ρ)
def kAu1 (ks : List Nat) (i : Nat) (g : D → D → Option Z) (d0 : D) (DD : EndsD) (r : R) (ρ : Rho) : Prop := lk (con ρ r) (kAu2 ks i g d0 DD ρ)
def qAu0 (ks : List Nat) (i : Nat) (g : D → D → Option Z) (ta : TD) (DD : EndsD) (ρ : Rho) : Option Sl → Prop
  | some (.dat d0) => ta ρ (kAu1 ks i g d0 DD)
  | _ => False
theorem e_aug : wAug ks i g ta DD ρ = qAu0 ks i g ta DD ρ ρ[i]? := by unfold wAug qAu0; rfl
theorem q_au0 : qAu0 ks i g ta DD ρ (some (.dat d)) = ta ρ (kAu1 ks i g d DD) := rfl
theorem k_au1 : kAu1 ks i g d DD r ρ = lk (con ρ r) (kAu2 ks i g d DD ρ) := rfl
theorem k_au2 : kAu2 ks i g d DD ρ e = lk (g d e) (kAu3 ks i DD ρ) := rfl
theorem k_au3 : kAu3 ks i DD ρ z = if i ∈ ks then False else DD.nx (ρ.set i z.r.sl) := rfl
/-- assignments -/
def kAs2 (i : Nat) (DD : EndsD) (p : R × Rho) : Prop := DD.nx (p.2.set i p.1.sl)
def kAs1 (ks : List Nat) (i : Nat) (DD : EndsD) (r : R) (ρ : Rho) : Prop := if i ∈ ks then False else lk (thin ks r ρ) (kAs2 i DD)
theorem e_asg : wAsg ks i ta DD ρ = ta ρ (kAs1 ks i DD) := rfl
theorem k_as1 : kAs1 ks i DD r ρ = if i ∈ ks then False else lk (thin ks r ρ) (kAs2 i DD) := rfl
theorem k_as2 : kAs2 i DD (r, ρ) = DD.nx (ρ.set i r.sl) := rfl
def kPa2 (is : List Nat) (DD : EndsD) (p : List R × Rho) : Prop := DD.nx (setR is p.1 p.2)
def kPa1 (ks is : List Nat) (DD : EndsD) (rs : List R) (ρ : Rho) : Prop := (∀ i ∈ is, i ∉ ks) ∧ rs.length = is.length ∧ lk (thins ks rs ρ) (kPa2 is DD)
theorem e_par : wPar ks is tA DD ρ = tA ρ (kPa1 ks is DD) := rfl
theorem k_pa1 : kPa1 ks is DD rs ρ = ((∀ i ∈ is, i ∉ ks) ∧ rs.length = is.length ∧ lk (thins ks rs ρ) (kPa2 is DD)) := rfl
theorem k_pa2 : kPa2 is DD (rs, ρ) = DD.nx (setR is rs ρ) := rfl
def kUp2 (g : GD) (DD : EndsD) (p : D × Rho) : Prop := g p.1 p.2 DD.nx
def kUp1 (ks : List Nat) (g : GD) (DD : EndsD) (r : R) (ρ : Rho) : Prop := lk (frz ks r ρ) (kUp2 g DD)
theorem e_unp {g : GD} : wUnp ks ta g DD ρ = ta ρ (kUp1 ks g DD) := rfl
theorem k_up1 {g : GD} : kUp1 ks g DD r ρ = lk (frz ks r ρ) (kUp2 g DD) := rfl
theorem k_up2 {g : GD} : kUp2 g DD (d, ρ) = g d ρ DD.nx := rfl
theorem e_hName : hName ks i d ρ QH = if i ∈ ks then False else QH (ρ.set i (.dat d)) := rfl
theorem e_hNil : hNil [] ρ QH = QH ρ := propext ⟨fun h => h.2, fun h => ⟨rfl, h⟩⟩
def kHc (r : List D → Rho → (Rho → Prop) → Prop) (ds : List D) (QH : Rho → Prop) (ρ : Rho) : Prop := r ds ρ QH
theorem e_hCons {g : GD} {r : List D → Rho → (Rho → Prop) → Prop} : hCons g r (d :: ds) ρ QH = g d ρ (kHc r ds QH) := rfl
theorem k_hc {r : List D → Rho → (Rho → Prop) → Prop} : kHc r ds QH ρ = r ds ρ QH := rfl
theorem e_hTup {r : List D → Rho → (Rho → Prop) → Prop} : hTup n r (.tup ds) ρ QH = (ds.length = n ∧ r ds ρ QH) := rfl
theorem e_hWt {r : List D → Rho → (Rho → Prop) → Prop} : hTup n r (.wt ds) ρ QH = (ds.length = n ∧ r ds ρ QH) := rfl
def kDr (DD : EndsD) (_ : R) (ρ : Rho) : Prop := DD.nx ρ
theorem e_drop : wDrop ta DD ρ = ta ρ (kDr DD) := rfl
theorem k_dr : kDr DD r ρ = DD.nx ρ := rfl
def qOut (i : Nat) (ρ : Rho) (Q : R → Rho → Prop) : Option Sl → Prop
  | some (.own o) => Q (.own o) (ρ.set i .no)
  | some (.dat d) => Q (.dat d) ρ
  | _ => False
def kRt (ks : List Nat) (Q : R → Rho → Prop) (r : R) (ρ : Rho) : Prop := outR ks r ρ Q
theorem e_ret : wRet ks ta DD ρ = ta ρ (kRt ks DD.rt) := rfl
theorem k_rt_d : kRt ks Q (.dat d) ρ = Q (.dat d) ρ := rfl
theorem k_rt_o : kRt ks Q (.own o) ρ = Q (.own o) ρ := rfl
theorem k_rt_b : kRt ks Q (.bor i) ρ = if i ∈ ks then False else qOut i ρ Q ρ[i]? := by unfold kRt outR qOut; rfl
theorem q_out_o : qOut i ρ Q (some (.own o)) = Q (.own o) (ρ.set i .no) := rfl
theorem q_out_d : qOut i ρ Q (some (.dat d)) = Q (.dat d) ρ := rfl
/-- loops -/
def kFo2 (g : GD) (sb : SD) (DD : EndsD) (ds : List D) (ρ : Rho) : Prop := sb (loopE (forL g sb DD ds) DD) ρ
theorem forL_nil {g : GD} : forL g s DD [] ρ = DD.nx ρ := rfl
theorem forL_cons {g : GD} : forL g s DD (d :: ds) ρ = g d ρ (kFo2 g s DD ds) := rfl
theorem k_fo2 {g : GD} : kFo2 g s DD ds ρ = s (loopE (forL g s DD ds) DD) ρ := rfl
def kFo1 (g : GD) (sb : SD) (DD : EndsD) (ds : List D) (ρ : Rho) : Prop := forL g sb DD ds ρ
theorem e_for {ti : TID} {g : GD} : wFor ti g s DD ρ = ti ρ (kFo1 g s DD) := rfl
theorem k_fo1 {g : GD} : kFo1 g s DD ds ρ = forL g s DD ds ρ := rfl
def kWh (t : TTD) (sb : SD) (DD : EndsD) (n : Nat) (c : Bool) (ρ : Rho) : Prop := if c = true then sb (loopE (whileN t sb DD n) DD) ρ else DD.nx ρ
theorem whileN_succ : whileN t s DD (n + 1) ρ = t ρ (kWh t s DD n) := rfl
theorem k_wh : kWh t s DD n c ρ = if c = true then s (loopE (whileN t s DD n) DD) ρ else DD.nx ρ := rfl
theorem e_while : wWhile t s DD ρ = ∃ n, whileN t s DD n ρ := rfl
def kIt3 (Q : List D → Rho → Prop) (ρ : Rho) (l : List D) : Prop := Q l ρ
def kIt2 (Q : List D → Rho → Prop) (p : D × Rho) : Prop := lk (walkD p.1) (kIt3 Q p.2)
def kIt1 (ks : List Nat) (Q : List D → Rho → Prop) (r : R) (ρ : Rho) : Prop := lk (frz ks r ρ) (kIt2 Q)
theorem e_itS : wItS ks ta ρ QI = ta ρ (kIt1 ks QI) := rfl
theorem k_it1 : kIt1 ks QI r ρ = lk (frz ks r ρ) (kIt2 QI) := rfl
theorem k_it2 : kIt2 QI (d, ρ) = lk (walkD d) (kIt3 QI ρ) := rfl
theorem k_it3 : kIt3 QI ρ ds = QI ds ρ := rfl
theorem walk_l : walkD (.lst ds) = some ds := rfl
theorem walk_f : walkD (.fzl ds) = some ds := rfl
theorem walk_t : walkD (.tup ds) = some ds := rfl
def rangeD (j : Int) : List D := (List.range j.toNat).map fun n => .int (n : Nat)
def range2D (i j : Int) : List D := (List.range (j - i).toNat).map fun n => .int (i + (n : Nat))
def kR12 (Q : List D → Rho → Prop) (ρ : Rho) : List D → Prop
  | [.int j] => -(2 ^ 62) ≤ j ∧ j < 2 ^ 62 ∧ Q (rangeD j) ρ
  | _ => False
def kR11 (Q : List D → Rho → Prop) (rs : List R) (ρ : Rho) : Prop := lk (conL ρ rs) (kR12 Q ρ)
theorem e_itR1 : wItR1 tA ρ QI = tA ρ (kR11 QI) := by
  unfold wItR1
  congr 1
theorem k_r11 : kR11 QI rs ρ = lk (conL ρ rs) (kR12 QI ρ) := rfl
theorem k_r12 {j : Int} : kR12 QI ρ [.int j] = (-(2 ^ 62) ≤ j ∧ j < 2 ^ 62 ∧ QI (rangeD j) ρ) := rfl
def kR22 (Q : List D → Rho → Prop) (ρ : Rho) : List D → Prop
  | [.int i, .int j] => (-(2 ^ 62) ≤ i ∧ i < 2 ^ 62 ∧ -(2 ^ 62) ≤ j ∧ j < 2 ^ 62) ∧ Q (range2D i j) ρ
  | _ => False
def kR21 (Q : List D → Rho → Prop) (rs : List R) (ρ : Rho) : Prop := lk (conL ρ rs) (kR22 Q ρ)
theorem e_itR2 : wItR2 tA ρ QI = tA ρ (kR21 QI) := by
  unfold wItR2
  congr 1
theorem k_r21 : kR21 QI rs ρ = lk (conL ρ rs) (kR22 QI ρ) := rfl
theorem k_r22 {i j : Int} : kR22 QI ρ [.int i, .int j] = ((-(2 ^ 62) ≤ i ∧ i < 2 ^ 62 ∧ -(2 ^ 62) ≤ j ∧ j < 2 ^ 62) ∧ QI (range2D i j) ρ) := rfl
def kEn3 (Q : List D → Rho → Prop) (ρ : Rho) (l : List D) : Prop := Q (enumD 0 l) ρ
def kEn2 (Q : List D → Rho → Prop) (p : List D × Rho) : Prop := match p.1 with
  | [x] => lk (listD x) (kEn3 Q p.2)
  | _ => False
def kEn1 (ks : List Nat) (Q : List D → Rho → Prop) (rs : List R) (ρ : Rho) : Prop := lk (frzs ks rs ρ) (kEn2 Q)
theorem e_itE : wItE ks tA ρ QI = tA ρ (kEn1 ks QI) := by
  unfold wItE
  congr 1
theorem k_en1 : kEn1 ks QI rs ρ = lk (frzs ks rs ρ) (kEn2 QI) := rfl
theorem k_en2 : kEn2 QI ([d], ρ) = lk (listD d) (kEn3 QI ρ) := rfl
theorem k_en3 : kEn3 QI ρ ds = QI (enumD 0 ds) ρ := rfl
theorem list_l : listD (.lst ds) = some ds := rfl
theorem list_f : listD (.fzl ds) = some ds := rfl
/-- comprehensions -/
def kLcQ (vs : List Nat) (ρ1 : Rho) (Q : R → Rho → Prop) (acc : List D) (ρ2 : Rho) : Prop := Q (.own (.lst acc)) (unw vs ρ1 ρ2)
def kLc (ks : List Nat) (g : GD) (tt : TTD) (te : TD) (vs : List Nat) (Q : R → Rho → Prop) (ds : List D) (ρ1 : Rho) : Prop := (∀ v ∈ vs, v ∉ ks ∧ ∀ o, ρ1[v]? ≠ some (.own o)) ∧ compL ks g tt te vs ds [] (wipR ρ1 vs) (kLcQ vs ρ1 Q)
theorem e_lc {ti : TID} {g : GD} : wLc ks ti g t ta vs ρ Q = ti ρ (kLc ks g t ta vs Q) := rfl
theorem k_lc {g : GD} : kLc ks g t ta vs Q ds ρ = ((∀ v ∈ vs, v ∉ ks ∧ ∀ o, ρ[v]? ≠ some (.own o)) ∧ compL ks g t ta vs ds [] (wipR ρ vs) (kLcQ vs ρ Q)) := rfl
theorem k_lcQ : kLcQ vs ρ1 Q ds ρ2 = Q (.own (.lst ds)) (unw vs ρ1 ρ2) := rfl
def kC4 (ks : List Nat) (g : GD) (tt : TTD) (te : TD) (vs : List Nat) (ds acc : List D) (Q : List D → Rho → Prop) (p : D × Rho) : Prop := acc.length < sizeLine ∧ compL ks g tt te vs ds (acc ++ [p.1]) (wipR p.2 vs) Q
def kC3 (ks : List Nat) (g : GD) (tt : TTD) (te : TD) (vs : List Nat) (ds acc : List D) (Q : List D → Rho → Prop) (r : R) (ρ : Rho) : Prop := lk (frz ks r ρ) (kC4 ks g tt te vs ds acc Q)
def kC2 (ks : List Nat) (g : GD) (tt : TTD) (te : TD) (vs : List Nat) (ds acc : List D) (Q : List D → Rho → Prop) (c : Bool) (ρ : Rho) : Prop := if c = true then te ρ (kC3 ks g tt te vs ds acc Q) else compL ks g tt te vs ds acc (wipR ρ vs) Q
def kC1 (ks : List Nat) (g : GD) (tt : TTD) (te : TD) (vs : List Nat) (ds acc : List D) (Q : List D → Rho → Prop) (ρ : Rho) : Prop := tt ρ (kC2 ks g tt te vs ds acc Q)
theorem compL_nil {g : GD} {acc : List D} : compL ks g t ta vs [] acc ρ QI = QI acc ρ := rfl
theorem compL_cons {g : GD} {acc : List D} : compL ks g t ta vs (d :: ds) acc ρ QI = g d ρ (kC1 ks g t ta vs ds acc QI) := rfl
theorem k_c1 {g : GD} {acc : List D} : kC1 ks g t ta vs ds acc QI ρ = t ρ (kC2 ks g t ta vs ds acc QI) := rfl
theorem k_c2 {g : GD} {acc : List D} : kC2 ks g t ta vs ds acc QI c ρ = if c = true then ta ρ (kC3 ks g t ta vs ds acc QI) else compL ks g t ta vs ds acc (wipR ρ vs) QI := rfl
theorem k_c3 {g : GD} {acc : List D} : kC3 ks g t ta vs ds acc QI r ρ = lk (frz ks r ρ) (kC4 ks g t ta vs ds acc QI) := rfl
theorem k_c4 {g : GD} {acc : List D} : kC4 ks g t ta vs ds acc QI (d, ρ) = (acc.length < sizeLine ∧ compL ks g t ta vs ds (acc ++ [d]) (wipR ρ vs) QI) := rfl
theorem e_yes : wYes ρ QT = QT true ρ := rfl
theorem wip_nil : wipR ρ [] = ρ := rfl
theorem wip_cons : wipR ρ (i :: is) = (wipR ρ is).set i .no := rfl
theorem unw_nil : unw [] ρ1 ρ2 = ρ2 := rfl
theorem unw_cons : unw (i :: is) ρ1 ρ2 = (unw is ρ1 ρ2).set i ((ρ1[i]?).getD .no) := rfl
end

/-! ### operations at written forms -/
section
variable {i j k : Int} {x y : Str} {l m : List D} {d : D} {c : Bool} {lo hi : Option Int}
theorem g_int {f : Int → Int → Option D} : gInt f (.int i) (.int j) = (f i j).map .d := rfl
theorem f_add : fAdd i j = some (.int (i + j)) := rfl
theorem f_sub : fSub i j = some (.int (i - j)) := rfl
theorem f_mul : fMul i j = if i.natAbs.log2 + j.natAbs.log2 < 1000000 then some (.int (i * j)) else none := rfl
theorem f_div : fDiv i j = if 0 < j ∧ j.natAbs.log2 < 9000 then some (.int (i / j)) else none := rfl
theorem f_mod : fMod i j = if 0 < j then some (.int (i % j)) else none := rfl
theorem f_pow : fPow i j = if 0 ≤ j ∧ j ≤ 1000000 ∧ i.natAbs < 2 ^ 64 then some (.int (i ^ j.toNat)) else none := rfl
theorem f_lt : fLt i j = some (.bl (decide (i < j))) := rfl
theorem f_le : fLe i j = some (.bl (decide (i ≤ j))) := rfl
theorem f_gt : fGt i j = some (.bl (decide (j < i))) := rfl
theorem f_ge : fGe i j = some (.bl (decide (j ≤ i))) := rfl
theorem add_i : gAdd (.int i) (.int j) = some (.d (.int (i + j))) := rfl
theorem add_s : gAdd (.str x) (.str y) = if x.length + y.length ≤ sizeLine then some (.d (.str (x ++ y))) else none := rfl
theorem add_l : gAdd (.lst l) (.lst m) = if l.length + m.length ≤ sizeLine then some (.n (.lst (l ++ m))) else none := rfl
theorem add_t : gAdd (.tup l) (.tup m) = if l.length + m.length ≤ sizeLine then some (.t (l ++ m)) else none := rfl
theorem mul_i : gMul (.int i) (.int j) = (fMul i j).map .d := rfl
theorem mul_l : gMul (.lst l) (.int k) = if -(2 ^ 63) ≤ k ∧ k < 2 ^ 63 ∧ l.length * k.toNat ≤ sizeLine then some (.n (.lst (List.replicate k.toNat l).flatten)) else none := rfl
theorem mul_t : gMul (.tup l) (.int k) = if -(2 ^ 63) ≤ k ∧ k ≤ 1000 ∧ l.length ≤ 1000 then some (.t (List.replicate k.toNat l).flatten) else none := rfl
theorem neg_i : gNeg (.int i) = some (.d (.int (-i))) := rfl
theorem ix_l : gIx (.lst l) (.int i) = (atI l i).map .d := rfl
theorem ix_t : gIx (.tup l) (.int i) = (atI l i).map .d := rfl
theorem sl_l : gSl (.lst l) lo hi = some (.n (.lst (cutD l lo hi))) := rfl
theorem sl_f : gSl (.fzl l) lo hi = some (.n (.lst (cutD l lo hi))) := rfl
theorem sl_t : gSl (.tup l) lo hi = some (.t (cutD l lo hi)) := rfl
theorem len_l : gLen [.lst l] = some (.d (.int l.length)) := rfl
theorem len_f : gLen [.fzl l] = some (.d (.int l.length)) := rfl
theorem len_t : gLen [.tup l] = some (.d (.int l.length)) := rfl
theorem len_s : gLen [.str x] = if x.length ≤ sizeLine then some (.d (.int x.length)) else none := rfl
theorem abs_i : gAbs [.int i] = some (.d (.int (if i < 0 then -i else i))) := rfl
theorem int_i : gIntOf [.int i] = some (.d (.int i)) := rfl
theorem lof_l : gListOf [.lst l] = some (.n (.lst l)) := rfl
theorem lof_f : gListOf [.fzl l] = some (.n (.lst l)) := rfl
theorem lof_t : gListOf [.tup l] = some (.n (.lst l)) := rfl
theorem tof_l : gTupOf [.lst l] = some (.t l) := rfl
theorem tof_f : gTupOf [.fzl l] = some (.t l) := rfl
theorem tof_t : gTupOf [.tup l] = some (.t l) := rfl
theorem dof_t : gDictOf [.tup l] = (pairsD l).map fun ps => .n (.dct (mergeKD [] ps)) := rfl
theorem app_l : gAppend l [d] = if l.length < sizeLine then some (l ++ [d], .non) else none := rfl
theorem pop_l : gPop l [] = (l[l.length - 1]?).map fun d => (l.dropLast, d) := rfl
theorem popAt_l : gPopAt l [.int i] = if -(2 ^ 63) ≤ i ∧ i < 2 ^ 63 then (seqIndex? i l.length).bind fun k => (l[k]?).map fun d => (l.eraseIdx k, d) else none := rfl
theorem ext_t : gExtend l [.tup m] = if l.length + m.length ≤ sizeLine then some (l ++ m, .non) else none := rfl
theorem ext_l : gExtend l [.lst m] = if l.length + m.length ≤ sizeLine then some (l ++ m, .non) else none := rfl
theorem tru_b : truD (.bl c) = some c := rfl
theorem tru_i : truD (.int i) = some (i != 0) := rfl
theorem tru_l : truD (.lst l) = some (!l.isEmpty) := rfl
theorem tru_t : truD (.tup l) = some (!l.isEmpty) := rfl
theorem tru_n : truD .non = some false := rfl
theorem augN : gAddN (.int i) (.int j) = some (.d (.int (i + j))) := rfl
theorem subN : gSubN (.int i) (.int j) = some (.d (.int (i - j))) := rfl
theorem is_bl {a : Bool} {neg : Bool} : gIs neg (.bl a) (.bl c) = some (.d (.bl (neg != decide (a = c)))) := rfl
theorem is_non {neg : Bool} : gIs neg d .non = some (.d (.bl (neg != nonD d))) := rfl
theorem ixN4_0 : ixN 4 0 = some 0 := rfl
theorem ixN4_1 : ixN 4 1 = some 1 := rfl
theorem ixN4_2 : ixN 4 2 = some 2 := rfl
theorem ixN4_3 : ixN 4 3 = some 3 := rfl
end
end DL

set_option Elab.async false
set_option maxRecDepth 100000
set_option maxHeartbeats 4000000
/-! DE: the end: the law's own call, from its promise over data. -/
namespace DL
open PySem PySem.Spec PyProof.Rows L2

/-- where a def of the module's top stands -/
structure AtM (K : PySem.W.Frag) (mg : Str → Option Value) (x : Str) (st : Stmt) : Prop where
  fn : ∃ (f : Addr) (fd : FuncData), Fun K x x st f fd ∧ mg x = some (.ref f) ∧ PySem.W.keepIn K (.ref f) = true
/-- the facts of it that the written part tells -/
structure AtK (K : PySem.W.Frag) (x : Str) (st : Stmt) : Prop where
  ex : ∃ (f : Addr) (oc : Value) (od an : Option Addr) (osl : Array (Option Value)) (kV doc pm cdv ct : Value), PySem.W.nsIn K mainGlobals x = some (some (.ref f)) ∧
    K.lookup f = some ⟨oc, od, .func (PySem.W.fnOf x x (defArgs st) (defBody st) (defScope st) .none kV doc pm an cdv ct), osl⟩ ∧ PySem.W.codeIn K cdv x = true ∧ PySem.W.keepIn K (.ref f) = true
theorem atK_mk {K : PySem.W.Frag} {x : Str} {st : Stmt} {f : Addr} {oc : Value} {od an : Option Addr} {osl : Array (Option Value)} {kV doc pm cdv ct : Value} (a : PySem.W.nsIn K mainGlobals x = some (some (.ref f)))
    (l : K.lookup f = some ⟨oc, od, .func (PySem.W.fnOf x x (defArgs st) (defBody st) (defScope st) .none kV doc pm an cdv ct), osl⟩) (c : PySem.W.codeIn K cdv x = true) (k : PySem.W.keepIn K (.ref f) = true) : AtK K x st := ⟨f, oc, od, an, osl, kV, doc, pm, cdv, ct, a, l, c, k⟩
theorem AtK.m {K : PySem.W.Frag} {mg : Str → Option Value} {h : Heap} {x : Str} {st : Stmt} (t : AtK K x st) (X : K.In h) (G : h.Ns mainGlobals mg) : AtM K mg x st := by
  obtain ⟨f, oc, od, an, osl, kV, doc, pm, cdv, ct, a, l, c, k⟩ := t.ex
  exact ⟨f, _, fun_mk (st := st) l c k, PySem.W.mg_of X G a, k⟩
/-- an abstract heap that knows the script alone, if anything -/
def scrH (K : PySem.W.Frag) (a : Addr) (vs : List Value) (ns : List Int) : Hp := fun b => if b = a ∧ K.lookup a = none then some (.frz { cls := .type "list", data := .seq vs.toArray } (.lst (ns.map V.int))) else none
section
variable {P : Program} {w : World} {K : PySem.W.Frag} {mg mb : Str → Option Value} {k : Nat} {fa a : Addr} {fd : FuncData} {x : Str} {sp : Sp} {st : Shared} {vs : List Value} {ns : List Int}
theorem scr_some {b : Addr} {u : HO} (h : scrH K a vs ns b = some u) : b = a ∧ K.lookup a = none ∧ u = .frz { cls := .type "list", data := .seq vs.toArray } (.lst (ns.map V.int)) := by
  unfold scrH at h
  split at h
  · rename_i c
    cases h
    exact ⟨c.1, c.2, rfl⟩
  · cases h
theorem scr_sql (kin : K.In st.heap) (obj : st.heap.get? a = some { cls := .type "list", data := .seq vs.toArray }) (ia : IntsAre vs ns) (lz : ns.length ≤ sizeLine) : SqL K (scrH K a vs ns) a (ns.map V.int) := by
  cases q : K.lookup a with
  | none =>
    refine .inl (.inr ⟨{ cls := .type "list", data := .seq vs.toArray }, ?_⟩)
    unfold scrH
    rw [if_pos ⟨rfl, q⟩]
  | some o =>
    have e2 := kin a o q
    rw [obj] at e2
    cases e2
    exact .inr ⟨_, vs.toArray, _, q, rfl, rfl, rfl, by rw [List.size_toArray, ia.length]; exact lz, by simpa using vals_ints ia⟩
/-- the law's call -/
theorem law_run (kin : K.In st.heap) (gl : st.heap.Ns mainGlobals mg) (bl : st.heap.Ns builtinsNs mb) (bx : ∀ y : Str, y ≠ "__name__" → mb y = bootBuiltins y) (nl : st.heap.NoLimit) (gz : st.gens = #[])
    (obj : st.heap.get? a = some { cls := .type "list", data := .seq vs.toArray }) (ia : IntsAre vs ns) (lz : ns.length ≤ sizeLine) (rm : Room k callerA)
    (sm : ModsOk st.heap) (F : ∀ base : Heap, K.In base → base.Ns mainGlobals mg → ModsOk base → FnG P w K mg base CX0 k fa fd [x] sp) (bd : ∀ (s : Shared) (u : Value), BindsTo s fd ⟨[u], []⟩ [(x, u)])
    (want : ∀ H : Hp, SqL K H a (ns.map V.int) → sp [.ref a] H (fun v _ => v = .bl true) fun _ _ _ => False) :
    codeAny (model P w) callerA (.call (.ref fa) ⟨[.ref a], []⟩) (fun r s' => r = .ok (.ret (.bool true)) ∧ OldK st.heap s'.heap ∧ s'.os = st.os ∧ AllBare s'.gens) st := by
  have hH : ∀ {b : Addr} {u : HO}, scrH K a vs ns b = some u → b = a ∧ K.lookup a = none ∧ u = .frz { cls := .type "list", data := .seq vs.toArray } (.lst (ns.map V.int)) := fun h => scr_some h
  have off : ∀ {b : Addr} {o : Obj}, st.heap.get? b = some o → (b = a → K.lookup a ≠ none) → (hidT st.heap (scrH K a vs ns)).get? b = some o := fun {b o} e n => hidT_get e (by
    cases q : scrH K a vs ns b with
    | none => rfl
    | some u => exact absurd (hH q).2.1 (n (hH q).1))
  have offD : ∀ {b : Addr} {o : Obj} {es : Array DictEntry} {ep : Nat}, st.heap.get? b = some o → o.data = .dict es ep → (hidT st.heap (scrH K a vs ns)).get? b = some o := fun {b o es ep} e d => off e fun z => by
    subst z
    rw [obj] at e
    cases e
    cases (show Data.seq vs.toArray _ = Data.dict es ep from d)
  have offN : ∀ {b : Addr} {m : Str → Option Value}, st.heap.Ns b m → (hidT st.heap (scrH K a vs ns)).Ns b m := fun {b m} h => by
    obtain ⟨o, es, ep, e, d, r⟩ := h
    exact ⟨o, es, ep, offD e d, d, r⟩
  have kin2 : K.In (hidT st.heap (scrH K a vs ns)) := fun b o e => off (kin b o e) fun z => by
    subst z
    rw [e]
    exact fun z => by cases z
  have mods : Mod K mg (hidT st.heap (scrH K a vs ns)) := by
    refine ⟨kin2, offN gl, ⟨mb, offN bl, bx⟩, ?_⟩
    obtain ⟨mc, h1, h2⟩ := nl
    exact ⟨mc, offN h1, h2⟩
  have held : HOk P w (scrH K a vs ns) st.heap := fun b u h => by
    obtain ⟨rfl, _, rfl⟩ := hH h
    exact ⟨obj, by rw [List.length_map]; exact lz, vs, _, vals_ints ia, obj⟩
  have env : Env0 P w K mg (hidT st.heap (scrH K a vs ns)) callerA [] st (scrH K a vs ns) := by
    refine ⟨rfl, mods, fun b o e => of_hidT e, Nat.le_of_eq (hidT_size _ _), trivial, fun b hb => ?_, held, .of_eq gz⟩
    cases hb
  have run := (F _ kin2 (offN gl) (sm.imp fun _ => offN)).run callerA [] st _ ⟨[.ref a], []⟩ [.ref a] [.ref a] _ _ rm rfl env (bd st (.ref a)) (.cons rfl .nil) (want _ (scr_sql kin obj ia lz))
  refine codeAny_mono run fun r s' h => ?_
  match r, h with
  | .error e, h => exact h.elim
  | .ok .next, h => exact h.elim
  | .ok .brk, h => exact h.elim
  | .ok .cont, h => exact h.elim
  | .ok (.ret u), h =>
    obtain ⟨v, H', h1, h2, un, held', rv, q⟩ := h
    have q2 : v = .bl true := q
    subst q2
    cases (show u = Value.bool true from rv)
    refine ⟨rfl, OldK.of_keep fun b o e => ?_, h1, h2⟩
    cases z : scrH K a vs ns b with
    | none => exact un.keep b o e z (fun y => by cases y) (by simp)
    | some u =>
      obtain ⟨rfl, _, rfl⟩ := hH z
      rw [obj] at e
      cases e
      exact (held' b _ (un.frzs b _ _ z)).1
end
/-- what k_head leaves (case hc), from the law's promise over data -/
theorem walk_law {l : PySem.W.OpenLaw} {n k : Nat} {q : Program} {loose : List Str} {XP : (Str → Option Value) → Heap → Prop} {YP : World → Heap → Prop} {d : DefRec} {K : Params → PySem.W.Frag} {sp : DSp} {x : Str} (hn : l.most = some n) (hn2 : n ≤ sizeLine) (hdf : d.params.defaults = [])
    (rm : Room k callerA) (imp : importsNone q = true) (hY : ∀ (w : World) (h : Heap), YP w h → (K w.params).In h)
    (F : ∀ (w : World) (mg : Str → Option Value) (fa : Addr) (h : Heap), (K w.params).In h → h.Ns mainGlobals mg → mg d.name = some (.ref fa) →
      ∃ fd : FuncData, (∀ (s : Shared) (u : Value), BindsTo s fd ⟨[u], []⟩ [(x, u)]) ∧ ∀ base : Heap, (K w.params).In base → base.Ns mainGlobals mg → ModsOk base → FnG l.prog w (K w.params) mg base CX0 k fa fd [x] (toSp (K w.params) sp))
    (want : ∀ (ns : List Int) (Q : R → List Sl → Prop), ns.length ≤ n → (∀ z ∈ ns, Builtin.Int.intBits z ≤ 1048576) → (∀ a, Q (.dat (.bl true)) a) → sp [.dat (.fzl (ns.map .int))] Q fun _ _ => False) :
    PySem.W.WalkO q loose XP YP l.row.toRowW d [] (fun f vs => PySem.call f vs) := by
  refine Att.attach_callB hn hdf ?_
  intro w s0 st mg mb fa o pm cd doc a vs ns gr yp _ _ _ hm obj ia hl hbits gz
  have kin := hY w _ yp
  obtain ⟨fd, bd, FF⟩ := F w mg fa _ kin gr.T.g hm
  have sm : ModsOk st.heap := by
    obtain ⟨mm, h1, _⟩ := (gr.T.seer imp).mods
    exact ⟨mm, h1⟩
  refine law_run kin gr.T.g gr.T.b gr.T.builtins gr.T.nolimit gz obj ia (Nat.le_trans hl hn2) rm sm FF bd fun H hs => ?_
  have ra : RpA (K w.params) H (ns.map V.int) (ns.map .int) := by
    have : ∀ m : List Int, RpA (K w.params) H (m.map V.int) (m.map .int) := fun m => by
      induction m with
      | nil => exact .nil
      | cons i m ih => exact .cons (.int i) ih
    exact this ns
  refine ⟨H, [.dat (.fzl (ns.map .int))], fun r _ => r = .dat (.bl true), _, Ex.refl H, .cons (.fzl hs ra) .nil, by exact List.nodup_nil, want ns _ hl hbits (fun _ => rfl), fun v H' G' r args' _ rr e => ?_, fun _ _ _ _ _ _ _ e => e.elim⟩
  subst e
  cases (show Rp (K w.params) G' v (.bl true) from rr)
  rfl
end DL

set_option Elab.async false
set_option maxRecDepth 100000
set_option maxHeartbeats 4000000
/-! DK: the deck of draws. -/
namespace DL
open PySem PySem.Spec PyProof.Rows L2
local macro_rules | `(tactic| walk_at "dl") => `(tactic| simp (config := {decide := false}) only [seqE_nx, seqE_rt, seqE_bk, seqE_ct, loopE_nx, loopE_rt, loopE_bk, loopE_ct, e_seq, e_next, e_break, e_cont, e_retN, e_var, q_var_d, q_var_o, e_c, con_d, con_o, con_b, conS_d, conS_o, own_l, own_d, own_i, z_d, z_n, z_t, z_w, sl_d, sl_o, frz_d, frz_o, frz_b, q_frz_d, q_frz_o, frzs_nil, frzs_cons, k_fzs, k_fz, thin_d, thin_o, thin_b, k_th, thins_nil, thins_cons, k_ths, k_ts, setR_nil, setR_cons, k_e, e_op, k_op1, k_op2, k_op3, k_op4, e_un, k_un1, k_un2, e_nil, e_cons, k_co1, k_co2, conL_nil, conL_cons, k_cl, k_cl2, e_b, k_b1, k_b2, e_tup, k_tup1, k_tup2, e_lst, k_lst1, k_lst2, e_dct0, k_ret, e_call, k_ca1, k_ca2, k_retR, e_callR, k_cr1, k_cr2, k_cr3, e_tr, k_tr1, k_tr2, k_tr3, e_bl, k_bl, e_and, k_and, e_or, k_or, e_not, k_not, e_if, k_if, e_ifS, k_ifS, e_notV, k_nv1, k_nv2, e_andV, k_av1, k_av2, e_orV, k_ov1, k_ov2, bD_bl, e_sl, k_sl1, k_sl2, k_sl3, k_sl4, e_part, k_pt1, k_pt2, e_noP, e_dget, k_ge1, k_ge1b, k_ge2, k_ge3, k_ge4, dctD_d, keyD_i, keyD_s, e_mut, q_mu0, k_mu1, k_mu2, q_mu3, k_mu4, e_put, k_pu1, k_pu2, k_pu3, k_pu4, q_pu4, k_pu5, e_aug, q_au0, k_au1, k_au2, k_au3, e_asg, k_as1, k_as2, e_par, k_pa1, k_pa2, e_unp, k_up1, k_up2, e_hName, e_hNil, e_hCons, k_hc, e_hTup, e_hWt, e_drop, k_dr, e_ret, k_rt_d, k_rt_o, k_rt_b, q_out_o, q_out_d, forL_nil, forL_cons, k_fo2, e_for, k_fo1, k_wh, e_itS, k_it1, k_it2, k_it3, walk_l, walk_f, walk_t, e_itR1, k_r11, k_r12, e_itR2, k_r21, k_r22, e_itE, k_en1, k_en2, k_en3, list_l, list_f, e_lc, k_lc, k_lcQ, compL_nil, compL_cons, k_c1, k_c2, k_c3, k_c4, e_yes, wip_nil, wip_cons, unw_nil, unw_cons, g_int, f_add, f_sub, f_mul, f_div, f_mod, f_pow, f_lt, f_le, f_gt, f_ge, add_i, add_s, add_l, add_t, mul_i, mul_l, mul_t, neg_i, ix_l, ix_t, sl_l, sl_f, sl_t, len_l, len_f, len_t, len_s, abs_i, int_i, lof_l, lof_f, lof_t, tof_l, tof_f, tof_t, dof_t, app_l, ext_t, ext_l, tru_b, tru_i, tru_l, tru_t, tru_n, augN, subN, is_bl, is_non, ixN4_0, ixN4_1, ixN4_2, ixN4_3, lk_some, lk_ite, lk_map, lk_bind, ixOf, endsF_nx, endsF_dat, endsF_own, atI_0, atI_1, atI_2, atI_3, eqA_l0, eqA_tup0, eqA_int, eqA_non, bne_f, bne_t, sizeLine_eq,
  List.cons_append, List.nil_append, List.getElem?_cons_zero, List.getElem?_cons_succ, List.set_cons_zero, List.set_cons_succ, List.length_cons, List.length_nil, List.replicate, List.take_succ_cons, List.take_zero, List.not_mem_nil, List.mem_cons, List.map_cons, List.map_nil, if_false, if_true, Option.map_some, Option.bind_some, Option.getD_some, Nat.reduceAdd, Nat.reduceSub, Nat.reduceLeDiff, Nat.reduceEqDiff, Nat.succ_ne_zero, Nat.zero_ne_one, Nat.one_ne_zero, List.isEmpty_nil, List.isEmpty_cons, List.length_map, List.isEmpty_map, beq_iff_eq, Bool.not_eq_true, reduceCtorEq, or_false, or_true, false_or, true_or, and_true, true_and, List.cons.injEq, Option.some.injEq, Sl.own.injEq, Own.lst.injEq, exists_eq', not_false_eq_true, forall_const, forall_eq, forall_eq_or_imp, decide_eq_true_eq, Bool.not_true, Bool.not_false, Bool.false_eq_true, ite_self])
def rd__law_mixed (ks : List Nat) : SD :=
  (wSeq (wAsg ks 2 (wC (.int 2305843009213693951)))
  (wSeq (wAsg ks 3 (wOp (gInt fMod) (wOp gAdd (wOp gAdd (wOp gMul (wVar 0) (wC (.int 1181783497276652981))) (wOp gMul (wVar 1) (wC (.int 2685821657736338717)))) (wC (.int 41))) (wVar 2)))
  (wSeq (wFor (wItR1 (wCons (wC (.int 4)) wNil)) (hName ks 4) (wAsg ks 3 (wOp (gInt fMod) (wOp gAdd (wOp gAdd (wOp gAdd (wOp gMul (wVar 3) (wVar 3)) (wOp gMul (wC (.int 29)) (wVar 3))) (wOp gMul (wC (.int 4001)) (wVar 4))) (wVar 1)) (wVar 2))))
  (wRet ks (wOp gAdd (wOp gMul (wVar 3) (wVar 2)) (wOp (gInt fMod) (wOp gAdd (wOp gMul (wVar 3) (wC (.int 48271))) (wVar 1)) (wVar 2)))))))
def sp__law_mixed : DSp := fun args Q _ => ∃ number lap : Int, args = [.dat (.int number), .dat (.int lap)] ∧ 0 ≤ number ∧ number < 2 ^ 64 ∧ 0 ≤ lap ∧ lap < 2 ^ 64 ∧ ∀ r : Int, 0 ≤ r → Q (.dat (.int r)) [.dat (.int number), .dat (.int lap)]
theorem nat_lt {i : Int} {n : Nat} (h0 : 0 ≤ i) (h : i < 2 ^ n) : i.natAbs < 2 ^ n := by
  have : ((i.natAbs : Nat) : Int) < ((2 ^ n : Nat) : Int) := by
    rw [Int.natAbs_of_nonneg h0]; push_cast; exact h
  exact Int.ofNat_lt.mp this
theorem mulB {i j : Int} (a b : Nat) (h0 : 0 ≤ i) (hi : i < 2 ^ a) (k0 : 0 ≤ j) (hj : j < 2 ^ b) (h1 : 0 < a) (h2 : 0 < b) (h : a + b < 1000000) : i.natAbs.log2 + j.natAbs.log2 < 1000000 := mul_ok a b (nat_lt h0 hi) (nat_lt k0 hj) h1 h2 h
theorem mixed_loop {n l : Int} (l0 : 0 ≤ l) (DD : EndsD) (hD : ∀ (found : Int) (s4 : Sl), 0 ≤ found → found < 2 ^ 61 → DD.nx [.dat (.int n), .dat (.int l), .dat (.int 2305843009213693951), .dat (.int found), s4]) : ∀ (ds : List D) (found : Int) (s4 : Sl), (∀ d ∈ ds, ∃ i : Int, d = .int i ∧ 0 ≤ i ∧ i < 4) → 0 ≤ found → found < 2 ^ 61 →
    forL (hName [] 4) (wAsg [] 3 (wOp (gInt fMod) (wOp gAdd (wOp gAdd (wOp gAdd (wOp gMul (wVar 3) (wVar 3)) (wOp gMul (wC (.int 29)) (wVar 3))) (wOp gMul (wC (.int 4001)) (wVar 4))) (wVar 1)) (wVar 2))) DD ds [.dat (.int n), .dat (.int l), .dat (.int 2305843009213693951), .dat (.int found), s4]
  | [], found, s4, _, h0, h1 => hD found s4 h0 h1
  | d :: ds, found, s4, hd, h0, h1 => by
    obtain ⟨i, rfl, i0, i1⟩ := hd d List.mem_cons_self
    unfold forL
    walk_at "dl"
    refine ⟨mulB 61 61 h0 h1 h0 h1 (by decide) (by decide) (by decide), mulB 61 61 (by decide) (by decide) h0 h1 (by decide) (by decide) (by decide), mulB 61 61 (by decide) (by decide) i0 (by omega) (by decide) (by decide) (by decide), by decide, ?_⟩
    exact mixed_loop l0 DD hD ds _ _ (fun d h => hd d (List.mem_cons_of_mem _ h)) (Int.emod_nonneg _ (by decide)) (Int.lt_trans (Int.emod_lt_of_pos _ (by decide)) (by decide))
theorem pl__law_mixed : PL 5 2 rd__law_mixed sp__law_mixed := fun args QD ED h => by
  obtain ⟨n, l, rfl, n0, n1, l0, l1, h⟩ := h
  refine ⟨rfl, ?_⟩
  unfold rd__law_mixed
  walk_at "dl"
  refine ⟨mulB 64 64 n0 n1 (by decide) (by decide) (by decide) (by decide) (by decide), mulB 64 64 l0 l1 (by decide) (by decide) (by decide) (by decide) (by decide), by decide, by decide, by decide, ?_⟩
  refine mixed_loop l0 _ (fun found s4 h0 h1 => ?_) _ _ _ (fun d hd => ?_) (Int.emod_nonneg _ (by decide)) (Int.lt_trans (Int.emod_lt_of_pos _ (by decide)) (by decide))
  · walk_at "dl"
    refine ⟨mulB 61 64 h0 h1 (by decide) (by decide) (by decide) (by decide) (by decide), mulB 61 64 h0 h1 (by decide) (by decide) (by decide) (by decide) (by decide), by decide, h _ ?_⟩
    have a1 : 0 ≤ found * 2305843009213693951 := Int.mul_nonneg h0 (by decide)
    have a2 : 0 ≤ (found * 48271 + l) % 2305843009213693951 := Int.emod_nonneg _ (by decide)
    omega
  · obtain ⟨j, hj, rfl⟩ := List.mem_map.mp hd
    have := List.mem_range.mp hj
    exact ⟨_, rfl, by omega, by omega⟩

/-! ### the deck: n more draws are let by -/
structure Dk (n : Nat) (o : Own) : Prop where
  ex : ∃ (cells : List Int) (place amount left : Int), o = .lst [.lst (cells.map .int), .int place, .int amount, .int left] ∧ cells.length ≤ 63 ∧ (∀ c ∈ cells, 0 ≤ c) ∧ 0 ≤ place ∧ place + (n : Int) < 2 ^ 63 ∧ 0 ≤ amount ∧ 0 ≤ left
theorem Dk.mono {n m : Nat} {o : Own} (h : Dk n o) (e : m ≤ n) : Dk m o := by
  obtain ⟨c, p, a, l, h1, h2, h3, h4, h5, h6⟩ := h.ex
  exact ⟨c, p, a, l, h1, h2, h3, h4, by omega, h6⟩
def sp__law_below : DSp := fun args Q _ => ∃ (n : Nat) (o : Own) (bound : Int), args = [.own o, .dat (.int bound)] ∧ Dk (n + 1) o ∧ 0 < bound ∧ bound < 2 ^ 64 ∧ ∀ (r : Int) (o' : Own), 0 ≤ r → r < bound → Dk n o' → Q (.dat (.int r)) [.own o', .dat (.int bound)]
def rd__law_below (ks : List Nat) (sp__law_mixed : DSp) : SD :=
  (wSeq (wIfS (wBl (wOp (gInt fLt) (wOp gIx (wVar 0) (wC (.int 3))) (wVar 1))) (wSeq (wPar ks [2, 3] (wCons (wOp gIx (wVar 0) (wC (.int 0))) (wCons (wOp gIx (wVar 0) (wC (.int 1))) wNil)))
  (wSeq (wAsg ks 4 (wIf (wBl (wOp (gEqA true) (wVar 2) (wLst ks wNil))) (wOp gIx (wVar 2) (wOp (gInt fMod) (wVar 3) (wB gLen (wCons (wVar 2) wNil)))) (wC (.int 0))))
  (wSeq (wIfS (wOr (wBl (wOp (gInt fGe) (wVar 3) (wB gLen (wCons (wVar 2) wNil)))) (wBl (wOp (gInt fLt) (wVar 4) (wOp (gInt fPow) (wC (.int 10)) (wC (.int 16)))))) (wAsg ks 4 (wCall ks sp__law_mixed (wCons (wOp (gInt fMod) (wB gIntOf (wCons (wVar 4) wNil)) (wC (.int 998244353))) (wCons (wVar 3) wNil)))) wNext)
  (wSeq (wPut ks 0 (wC (.int 1)) (wOp gAdd (wVar 3) (wC (.int 1))))
  (wSeq (wPut ks 0 (wC (.int 2)) (wVar 4))
  (wPut ks 0 (wC (.int 3)) (wVar 4))))))) wNext)
  (wSeq (wAsg ks 5 (wOp (gInt fMod) (wB gIntOf (wCons (wOp gIx (wVar 0) (wC (.int 2))) wNil)) (wVar 1)))
  (wSeq (wPut ks 0 (wC (.int 2)) (wOp (gInt fDiv) (wOp gIx (wVar 0) (wC (.int 2))) (wVar 1)))
  (wSeq (wPut ks 0 (wC (.int 3)) (wOp (gInt fDiv) (wOp gIx (wVar 0) (wC (.int 3))) (wVar 1)))
  (wRet ks (wVar 5))))))
theorem div_nn {a b : Int} (h0 : 0 ≤ a) (hb : 0 < b) : 0 ≤ a / b := Int.ediv_nonneg h0 (Int.le_of_lt hb)
theorem bnd_ok {b : Int} (h0 : 0 < b) (h : b < 2 ^ 64) : b.natAbs.log2 < 9000 := by
  have := log2_of (nat_lt (Int.le_of_lt h0) h) (by decide)
  omega
theorem pl__law_below : PL 6 2 (fun ks => rd__law_below ks sp__law_mixed) sp__law_below := fun args QD ED h => by
  obtain ⟨n, o, bound, rfl, hd, b0, b1, h⟩ := h
  obtain ⟨cells, place, amount, left, rfl, c0, c1, p0, p1, a0, l0⟩ := hd.ex
  refine ⟨rfl, ?_⟩
  have hb := bnd_ok b0 b1
  have fin : ∀ (am : Int) (s2 s3 s4 s5 : Sl), 0 ≤ am → QD (.dat (.int (am % bound))) [.own (.lst [.lst (cells.map .int), .int (place + 1), .int (am / bound), .int (am / bound)]), .dat (.int bound)] := fun am s2 s3 s4 s5 h0 =>
    h _ _ (Int.emod_nonneg _ (by omega)) (Int.emod_lt_of_pos _ b0) ⟨⟨cells, place + 1, am / bound, am / bound, rfl, c0, c1, by omega, by omega, div_nn h0 b0, div_nn h0 b0⟩⟩
  unfold rd__law_below
  walk_at "dl"
  split
  · -- a new amount
    split
    · rename_i hc
      have hl : 0 < (cells.length : Int) := by
        cases cells with
        | nil => exact absurd hc (by simp)
        | cons x xs => rw [List.length_cons]; omega
      refine ⟨hl, ?_⟩
      obtain ⟨v, hv, ev⟩ := atI_map (f := D.int) (Int.emod_nonneg place (by omega)) (Int.emod_lt_of_pos place hl)
      have v0 := c1 v hv
      rw [lk_eq ev]
      walk_at "dl"
      split
      · refine ⟨by decide, _, _, rfl, Int.emod_nonneg _ (by decide), Int.lt_trans (Int.emod_lt_of_pos _ (by decide)) (by decide), p0, by omega, fun r hr => ?_⟩
        walk_at "dl"
        exact ⟨b0, ⟨b0, hb⟩, ⟨b0, hb⟩, fin r .no .no .no .no hr⟩
      · refine ⟨⟨by decide, by decide, by decide⟩, ?_⟩
        split
        · refine ⟨by decide, _, _, rfl, Int.emod_nonneg _ (by decide), Int.lt_trans (Int.emod_lt_of_pos _ (by decide)) (by decide), p0, by omega, fun r hr => ?_⟩
          walk_at "dl"
          exact ⟨b0, ⟨b0, hb⟩, ⟨b0, hb⟩, fin r .no .no .no .no hr⟩
        · exact ⟨b0, ⟨b0, hb⟩, ⟨b0, hb⟩, fin v .no .no .no .no v0⟩
    · split
      · refine ⟨by decide, _, _, rfl, Int.emod_nonneg _ (by decide), Int.lt_trans (Int.emod_lt_of_pos _ (by decide)) (by decide), p0, by omega, fun r hr => ?_⟩
        walk_at "dl"
        exact ⟨b0, ⟨b0, hb⟩, ⟨b0, hb⟩, fin r .no .no .no .no hr⟩
      · refine ⟨⟨by decide, by decide, by decide⟩, ?_⟩
        split
        · refine ⟨by decide, _, _, rfl, Int.emod_nonneg _ (by decide), Int.lt_trans (Int.emod_lt_of_pos _ (by decide)) (by decide), p0, by omega, fun r hr => ?_⟩
          walk_at "dl"
          exact ⟨b0, ⟨b0, hb⟩, ⟨b0, hb⟩, fin r .no .no .no .no hr⟩
        · exact ⟨b0, ⟨b0, hb⟩, ⟨b0, hb⟩, fin 0 .no .no .no .no (Int.le_refl 0)⟩
  · refine ⟨b0, ⟨b0, hb⟩, ⟨b0, hb⟩, ?_⟩
    exact h _ _ (Int.emod_nonneg _ (by omega)) (Int.emod_lt_of_pos _ b0) ⟨⟨cells, place, amount / bound, left / bound, rfl, c0, c1, by omega, by omega, div_nn a0 b0, div_nn l0 b0⟩⟩

/-! ### pick: one of a list's items -/
def listOf : Own → Option (List D)
  | .lst l => some l
  | _ => none
def sp__law_pick : DSp := fun args Q _ => ∃ (n : Nat) (o : Own) (l : List D), args = [.own o, .dat (.lst l)] ∧ Dk (n + 1) o ∧ l ≠ [] ∧ l.length < 1000 ∧ ∀ (x : D) (o' : Own), x ∈ l → Dk n o' → Q (.dat x) [.own o', .dat (.lst l)]
def rd__law_pick (ks : List Nat) (sp__law_below : DSp) : SD :=
  (wRet ks (wOp gIx (wVar 1) (wCallR ks sp__law_below (wCons (wVar 0) (wCons (wB gLen (wCons (wVar 1) wNil)) wNil)))))
theorem pl__law_pick : PL 2 2 (fun ks => rd__law_pick ks sp__law_below) sp__law_pick := fun args QD ED h => by
  obtain ⟨n, o, l, rfl, hd, hl, hz, h⟩ := h
  refine ⟨rfl, ?_⟩
  unfold rd__law_pick
  walk_at "dl"
  have l0 : 0 < l.length := List.length_pos_iff.mpr hl
  refine ⟨n, o, l.length, rfl, hd, by omega, by omega, fun r o' h0 h1 hd' => ?_⟩
  walk_at "dl"
  obtain ⟨x, hx, e, _⟩ := atI_mem h0 h1
  rw [lk_eq e]
  exact h x o' hx hd'

/-! ### the deck of a script -/
def rd__law_deck_of (ks : List Nat) : SD :=
  (wSeq (wAsg ks 2 (wLc ks (wItS ks (wSl gSl (wVar 0) wNoP (wPart (wC (.int 16))))) (hName ks 1) wYes (wB gAbs (wCons (wVar 1) wNil)) [1]))
  (wSeq (wFor (wItE ks (wCons (wSl gSl (wVar 0) (wPart (wC (.int 16))) (wPart (wC (.int 63)))) wNil)) (hTup 2 (hCons (hName ks 3) (hCons (hName ks 1) hNil))) (wPut ks 2 (wOp (gInt fMod) (wVar 3) (wC (.int 16))) (wOp gAdd (wOp gIx (wVar 2) (wOp (gInt fMod) (wVar 3) (wC (.int 16)))) (wB gAbs (wCons (wVar 1) wNil)))))
  (wRet ks (wLst ks (wCons (wVar 2) (wCons (wC (.int 0)) (wCons (wC (.int 0)) (wCons (wC (.int 0)) wNil))))))))
def sp__law_deck_of : DSp := fun args Q _ => ∃ (l : List Int), args = [.dat (.fzl (l.map .int))] ∧ l.length ≤ 63 ∧ ∀ (o : Own), Dk 1000000000000 o → Q (.own o) [.dat (.fzl (l.map .int))]
def absI (i : Int) : Int := if i < 0 then -i else i
theorem absI_nn (i : Int) : 0 ≤ absI i := by unfold absI; split <;> omega
theorem deck_comp {s0 : Sl} {Q : List D → Rho → Prop} : ∀ (xs acc : List Int), acc.length + xs.length ≤ 63 → Q ((acc ++ xs.map absI).map .int) [s0, .no, .no, .no] →
    compL [] (hName [] 1) wYes (wB gAbs (wCons (wVar 1) wNil)) [1] (xs.map .int) (acc.map .int) [s0, .no, .no, .no] Q
  | [], acc, _, q => by
    rw [List.map_nil, List.append_nil] at q
    exact q
  | x :: xs, acc, h, q => by
    rw [List.length_cons] at h
    rw [List.map_cons]
    walk_at "dl"
    refine ⟨by omega, ?_⟩
    have e : acc.map D.int ++ [D.int (if x < 0 then -x else x)] = (acc ++ [absI x]).map D.int := by rw [List.map_append]; rfl
    rw [e]
    refine deck_comp xs (acc ++ [absI x]) (by rw [List.length_append, List.length_singleton]; omega) ?_
    rw [List.map_cons] at q
    rw [List.append_assoc]
    exact q
theorem deck_loop {s0 : Sl} {DD : EndsD} (hD : ∀ (cells : List Int) (s1 s3 : Sl), cells.length ≤ 16 → (∀ c ∈ cells, 0 ≤ c) → DD.nx [s0, s1, .own (.lst (cells.map .int)), s3]) : ∀ (ys : List Int) (n : Nat) (cells : List Int) (s1 s3 : Sl), cells.length ≤ 16 → (ys ≠ [] → cells.length = 16) → (∀ c ∈ cells, 0 ≤ c) →
    forL (hTup 2 (hCons (hName [] 3) (hCons (hName [] 1) hNil))) (wPut [] 2 (wOp (gInt fMod) (wVar 3) (wC (.int 16))) (wOp gAdd (wOp gIx (wVar 2) (wOp (gInt fMod) (wVar 3) (wC (.int 16)))) (wB gAbs (wCons (wVar 1) wNil)))) DD (enumD n (ys.map .int)) [s0, s1, .own (.lst (cells.map .int)), s3]
  | [], n, cells, s1, s3, h1, h2, h3 => hD cells s1 s3 h1 h3
  | y :: ys, n, cells, s1, s3, h1, h2, h3 => by
    have hc := h2 (by simp)
    show forL _ _ DD (.wt [.int (n : Nat), .int y] :: enumD (n + 1) (ys.map .int)) _
    walk_at "dl"
    have e0 : 0 ≤ (n : Int) % 16 := Int.emod_nonneg _ (by decide)
    have e1 : (n : Int) % 16 < 16 := Int.emod_lt_of_pos _ (by decide)
    refine ⟨by decide, ?_⟩
    obtain ⟨v, hv, ev⟩ := atI_map (f := D.int) (l := cells) e0 (by rw [hc]; exact e1)
    rw [lk_eq ev]
    walk_at "dl"
    refine ⟨by decide, ?_⟩
    rw [lk_eq (ixN_int (n := cells.length) e0 (by rw [hc]; exact e1))]
    walk_at "dl"
    have e2 : (cells.map D.int).set ((n : Int) % 16).toNat (D.int (v + if y < 0 then -y else y)) = (cells.set ((n : Int) % 16).toNat (v + absI y)).map D.int := by rw [List.map_set]; rfl
    rw [e2]
    refine deck_loop hD ys (n + 1) _ _ _ (by rw [List.length_set]; exact h1) (fun _ => by rw [List.length_set]; exact hc) fun c hcm => ?_
    rcases List.mem_or_eq_of_mem_set hcm with h | h
    · exact h3 c h
    · have := h3 v hv
      have := absI_nn y
      omega
theorem pl__law_deck_of : PL 4 1 rd__law_deck_of sp__law_deck_of := fun args QD ED h => by
  obtain ⟨l, rfl, hl, h⟩ := h
  refine ⟨rfl, ?_⟩
  unfold rd__law_deck_of
  walk_at "dl"
  have e1 : cutD (l.map D.int) none (some 16) = (l.take 16).map D.int := by rw [List.map_take]; exact cutD_to 16
  rw [e1]
  refine ⟨fun o e => (by cases e), deck_comp (l.take 16) [] (by rw [List.length_take, List.length_nil]; omega) ?_⟩
  walk_at "dl"
  have e2 : cutD (l.map D.int) (some 16) (some 63) = ((l.drop 16).take 47).map D.int := by rw [List.map_take, List.map_drop]; exact cutD_mid 16 63
  rw [e2]
  refine deck_loop (fun cells s1 s3 c1 c2 => ?_) _ 0 _ _ _ (by rw [List.length_map, List.length_take]; omega) (fun h => ?_) (fun c hc => ?_)
  · walk_at "dl"
    exact h _ ⟨⟨cells, 0, 0, 0, rfl, by omega, c2, by decide, by decide, by decide, by decide⟩⟩
  · have : 16 ≤ l.length := by
      refine Nat.le_of_lt (Nat.lt_of_not_le fun hle => h ?_)
      rw [List.drop_of_length_le hle]; rfl
    rw [List.length_map, List.length_take]; omega
  · obtain ⟨x, _, rfl⟩ := List.mem_map.mp hc
    exact absI_nn x
end DL

set_option Elab.async false
set_option maxRecDepth 100000
set_option maxHeartbeats 4000000
/-! DT: drawn kinds and trees. -/
namespace DL
open PySem PySem.Spec PyProof.Rows L2
local macro_rules | `(tactic| walk_at "dl") => `(tactic| simp (config := {decide := false}) only [seqE_nx, seqE_rt, seqE_bk, seqE_ct, loopE_nx, loopE_rt, loopE_bk, loopE_ct, e_seq, e_next, e_break, e_cont, e_retN, e_var, q_var_d, q_var_o, e_c, con_d, con_o, con_b, conS_d, conS_o, own_l, own_d, own_i, z_d, z_n, z_t, z_w, sl_d, sl_o, frz_d, frz_o, frz_b, q_frz_d, q_frz_o, frzs_nil, frzs_cons, k_fzs, k_fz, thin_d, thin_o, thin_b, k_th, thins_nil, thins_cons, k_ths, k_ts, setR_nil, setR_cons, k_e, e_op, k_op1, k_op2, k_op3, k_op4, e_un, k_un1, k_un2, e_nil, e_cons, k_co1, k_co2, conL_nil, conL_cons, k_cl, k_cl2, e_b, k_b1, k_b2, e_tup, k_tup1, k_tup2, e_lst, k_lst1, k_lst2, e_dct0, k_ret, e_call, k_ca1, k_ca2, k_retR, e_callR, k_cr1, k_cr2, k_cr3, e_tr, k_tr1, k_tr2, k_tr3, e_bl, k_bl, e_and, k_and, e_or, k_or, e_not, k_not, e_if, k_if, e_ifS, k_ifS, e_notV, k_nv1, k_nv2, e_andV, k_av1, k_av2, e_orV, k_ov1, k_ov2, bD_bl, e_sl, k_sl1, k_sl2, k_sl3, k_sl4, e_part, k_pt1, k_pt2, e_noP, e_dget, k_ge1, k_ge1b, k_ge2, k_ge3, k_ge4, dctD_d, keyD_i, keyD_s, e_mut, q_mu0, k_mu1, k_mu2, q_mu3, k_mu4, e_put, k_pu1, k_pu2, k_pu3, k_pu4, q_pu4, k_pu5, e_aug, q_au0, k_au1, k_au2, k_au3, e_asg, k_as1, k_as2, e_par, k_pa1, k_pa2, e_unp, k_up1, k_up2, e_hName, e_hNil, e_hCons, k_hc, e_hTup, e_hWt, e_drop, k_dr, e_ret, k_rt_d, k_rt_o, k_rt_b, q_out_o, q_out_d, forL_nil, forL_cons, k_fo2, e_for, k_fo1, k_wh, e_itS, k_it1, k_it2, k_it3, walk_l, walk_f, walk_t, e_itR1, k_r11, k_r12, e_itR2, k_r21, k_r22, e_itE, k_en1, k_en2, k_en3, list_l, list_f, e_lc, k_lc, k_lcQ, compL_nil, compL_cons, k_c1, k_c2, k_c3, k_c4, e_yes, wip_nil, wip_cons, unw_nil, unw_cons, g_int, f_add, f_sub, f_mul, f_div, f_mod, f_pow, f_lt, f_le, f_gt, f_ge, add_i, add_s, add_l, add_t, mul_i, mul_l, mul_t, neg_i, ix_l, ix_t, sl_l, sl_f, sl_t, len_l, len_f, len_t, len_s, abs_i, int_i, lof_l, lof_f, lof_t, tof_l, tof_f, tof_t, dof_t, app_l, ext_t, ext_l, tru_b, tru_i, tru_l, tru_t, tru_n, augN, subN, is_bl, is_non, ixN4_0, ixN4_1, ixN4_2, ixN4_3, lk_some, lk_ite, lk_map, lk_bind, ixOf, endsF_nx, endsF_dat, endsF_own, atI_0, atI_1, atI_2, atI_3, eqA_l0, eqA_tup0, eqA_int, eqA_non, bne_f, bne_t, sizeLine_eq,
  List.cons_append, List.nil_append, List.getElem?_cons_zero, List.getElem?_cons_succ, List.set_cons_zero, List.set_cons_succ, List.length_cons, List.length_nil, List.replicate, List.take_succ_cons, List.take_zero, List.not_mem_nil, List.mem_cons, List.map_cons, List.map_nil, if_false, if_true, Option.map_some, Option.bind_some, Option.getD_some, Nat.reduceAdd, Nat.reduceSub, Nat.reduceLeDiff, Nat.reduceEqDiff, Nat.succ_ne_zero, Nat.zero_ne_one, Nat.one_ne_zero, List.isEmpty_nil, List.isEmpty_cons, List.length_map, List.isEmpty_map, beq_iff_eq, Bool.not_eq_true, reduceCtorEq, or_false, or_true, false_or, true_or, and_true, true_and, List.cons.injEq, Option.some.injEq, Sl.own.injEq, Own.lst.injEq, exists_eq', not_false_eq_true, forall_const, forall_eq, forall_eq_or_imp, decide_eq_true_eq, Bool.not_true, Bool.not_false, Bool.false_eq_true, ite_self])
def rd__law_some_kind (ks : List Nat) (sp__law_below : DSp) (sp__law_pick : DSp) : SD :=
  (wSeq (wAsg ks 2 (wLst ks (wCons (wC (.int 0)) (wCons (wCallR ks sp__law_pick (wCons (wVar 0) (wCons (wLst ks (wCons (wC (.int 2)) (wCons (wC (.int 2)) (wCons (wC (.int 2)) (wCons (wC (.int 3)) (wCons (wC (.int 4)) wNil)))))) wNil))) wNil))))
  (wSeq (wFor (wItR1 (wCons (wCallR ks sp__law_below (wCons (wVar 0) (wCons (wOp (gInt fSub) (wVar 1) (wC (.int 1))) wNil))) wNil)) (hName ks 3) (wDrop (wMut ks 2 gAppend (wCons (wCallR ks sp__law_pick (wCons (wVar 0) (wCons (wLst ks (wCons (wC (.int 0)) (wCons (wC (.int 0)) (wCons (wC (.int 1)) (wCons (wC (.int 1)) (wCons (wC (.int 2)) (wCons (wC (.int 3)) (wCons (wC (.int 4)) wNil)))))))) wNil))) wNil))))
  (wSeq (wPar ks [4, 5] (wCons (wLst ks (wCons (wC (.str "leaf")) (wCons (wC (.str "join")) (wCons (wC (.str "a")) (wCons (wC (.str "z9")) (wCons (wC (.str "node")) (wCons (wC (.str "b2b")) (wCons (wC (.str "tip")) (wCons (wC (.str "eightabc")) wNil))))))))) (wCons (wLst ks wNil) wNil)))
  (wSeq (wWhile (wBl (wOp (gEqA true) (wVar 2) (wLst ks wNil))) (wSeq (wAsg ks 6 (wMut ks 4 gPopAt (wCons (wCallR ks sp__law_below (wCons (wVar 0) (wCons (wB gLen (wCons (wVar 4) wNil)) wNil))) wNil)))
  (wDrop (wMut ks 5 gAppend (wCons (wTup ks (wCons (wVar 6) (wCons (wMut ks 2 gPopAt (wCons (wCallR ks sp__law_below (wCons (wVar 0) (wCons (wB gLen (wCons (wVar 2) wNil)) wNil))) wNil)) wNil))) wNil)))))
  (wRet ks (wB gTupOf (wCons (wVar 5) wNil)))))))
abbrev Kind := List (Str × Int)
def pairD (p : Str × Int) : D := .tup [.str p.1, .int p.2]
def kindD (k : Kind) : D := .tup (k.map pairD)
def tagNames : List Str := ["leaf", "join", "a", "z9", "node", "b2b", "tip", "eightabc"]
structure KindOk (k : Kind) : Prop where
  nd : (k.map (·.1)).Nodup
  leaf : ∃ t, (t, 0) ∈ k
  node : ∃ t p, (t, p) ∈ k ∧ 0 < p
  rng : ∀ q ∈ k, 0 ≤ q.2 ∧ q.2 ≤ 4 ∧ q.1 ∈ tagNames
  len : k.length ≤ 8
def sp__law_some_kind : DSp := fun args Q _ => ∃ (n : Nat) (o : Own) (most : Int), args = [.own o, .dat (.int most)] ∧ Dk (n + 100) o ∧ 2 ≤ most ∧ most ≤ 8 ∧ ∀ (k : Kind) (o' : Own), KindOk k → Dk n o' → Q (.dat (kindD k)) [.own o', .dat (.int most)]
abbrev skBody1 (ks : List Nat) (sp__law_pick : DSp) : SD := (wDrop (wMut ks 2 gAppend (wCons (wCallR ks sp__law_pick (wCons (wVar 0) (wCons (wLst ks (wCons (wC (.int 0)) (wCons (wC (.int 0)) (wCons (wC (.int 1)) (wCons (wC (.int 1)) (wCons (wC (.int 2)) (wCons (wC (.int 3)) (wCons (wC (.int 4)) wNil)))))))) wNil))) wNil)))
abbrev skBody2 (ks : List Nat) (sp__law_below : DSp) : SD := (wSeq (wAsg ks 6 (wMut ks 4 gPopAt (wCons (wCallR ks sp__law_below (wCons (wVar 0) (wCons (wB gLen (wCons (wVar 4) wNil)) wNil))) wNil)))
  (wDrop (wMut ks 5 gAppend (wCons (wTup ks (wCons (wVar 6) (wCons (wMut ks 2 gPopAt (wCons (wCallR ks sp__law_below (wCons (wVar 0) (wCons (wB gLen (wCons (wVar 2) wNil)) wNil))) wNil)) wNil))) wNil))))
structure PartsOk (ps : List Int) : Prop where
  zero : 0 ∈ ps
  pos : ∃ p ∈ ps, 0 < p
  rng : ∀ p ∈ ps, 0 ≤ p ∧ p ≤ 4
theorem sk_loop1 {most : Int} {n : Nat} {DD : EndsD} (hD : ∀ (o : Own) (ps : List Int) (s3 : Sl), Dk n o → PartsOk ps → ps.length ≤ 8 → DD.nx [.own o, .dat (.int most), .own (.lst (ps.map .int)), s3, .no, .no, .no]) : ∀ (ds : List D) (o : Own) (ps : List Int) (s3 : Sl), Dk (n + ds.length) o → PartsOk ps → ps.length + ds.length ≤ 8 →
    forL (hName [0] 3) (skBody1 [0] sp__law_pick) DD ds [.own o, .dat (.int most), .own (.lst (ps.map .int)), s3, .no, .no, .no]
  | [], o, ps, s3, hd, hp, hl => hD o ps s3 hd hp hl
  | d :: ds, o, ps, s3, hd, hp, hl => by
    rw [List.length_cons] at hl hd
    walk_at "dl"
    refine ⟨n + ds.length, o, _, rfl, hd, by simp, by decide, fun x o1 hx hd1 => ?_⟩
    obtain ⟨p, rfl, hp0⟩ : ∃ p : Int, x = .int p ∧ 0 ≤ p ∧ p ≤ 4 := by
      simp only [List.mem_cons, List.not_mem_nil, or_false] at hx
      rcases hx with rfl | rfl | rfl | rfl | rfl | rfl | rfl <;> exact ⟨_, rfl, by decide⟩
    walk_at "dl"
    refine ⟨by omega, ?_⟩
    have e : ps.map D.int ++ [D.int p] = (ps ++ [p]).map D.int := by rw [List.map_append]; rfl
    rw [e]
    refine sk_loop1 hD ds o1 (ps ++ [p]) _ hd1 ⟨List.mem_append_left _ hp.zero, ?_, fun q hq => ?_⟩ (by rw [List.length_append, List.length_singleton]; omega)
    · obtain ⟨q, h1, h2⟩ := hp.pos
      exact ⟨q, List.mem_append_left _ h1, h2⟩
    · rcases List.mem_append.mp hq with h | h
      · exact hp.rng q h
      · cases List.mem_singleton.mp h; exact hp0
structure SkInv (ps : List Int) (ts : List Str) (fs : Kind) : Prop where
  nd : (ts ++ fs.map (·.1)).Nodup
  tags : ∀ t ∈ ts, t ∈ tagNames
  zero : 0 ∈ ps ∨ ∃ t, (t, 0) ∈ fs
  pos : (∃ p ∈ ps, 0 < p) ∨ ∃ t p, (t, p) ∈ fs ∧ 0 < p
  rng : ∀ p ∈ ps, 0 ≤ p ∧ p ≤ 4
  frng : ∀ q ∈ fs, 0 ≤ q.2 ∧ q.2 ≤ 4 ∧ q.1 ∈ tagNames
  len : ps.length + fs.length ≤ 8
theorem erase_perm {α : Type} : ∀ {l : List α} {i : Nat} {x : α}, l[i]? = some x → (x :: l.eraseIdx i).Perm l
  | [], i, x, h => by simp at h
  | y :: l, 0, x, h => by
    cases h
    exact List.Perm.refl _
  | y :: l, i + 1, x, h => by
    rw [List.eraseIdx_cons_succ]
    exact (List.Perm.swap y x _).trans (List.Perm.cons y (erase_perm (by simpa using h)))
theorem erase_mem {α : Type} {l : List α} {i : Nat} {x y : α} (e : l[i]? = some x) (h : y ∈ l) : y = x ∨ y ∈ l.eraseIdx i := List.mem_cons.mp ((erase_perm e).mem_iff.mpr h)
theorem mem_erase {α : Type} {l : List α} {i : Nat} {y : α} (h : y ∈ l.eraseIdx i) : y ∈ l := List.mem_of_mem_eraseIdx h
theorem SkInv.step {ps : List Int} {ts : List Str} {fs : Kind} {i j : Nat} {t : Str} {p : Int} (v : SkInv ps ts fs) (ei : ts[i]? = some t) (ej : ps[j]? = some p) : SkInv (ps.eraseIdx j) (ts.eraseIdx i) (fs ++ [(t, p)]) := by
  have ht : t ∈ ts := List.mem_of_getElem? ei
  have hp : p ∈ ps := List.mem_of_getElem? ej
  refine ⟨?_, fun x hx => v.tags x (mem_erase hx), ?_, ?_, fun x hx => v.rng x (mem_erase hx), fun q hq => ?_, ?_⟩
  · have h1 := erase_perm ei
    rw [List.map_append, List.map_singleton]
    refine (List.Perm.nodup_iff ?_).mp v.nd
    refine (h1.symm.append_right _).trans ?_
    rw [List.cons_append]
    refine (List.perm_append_comm (l₁ := [t]) (l₂ := ts.eraseIdx i ++ fs.map (·.1))).trans ?_
    rw [List.append_assoc]
  · rcases v.zero with h | ⟨x, h⟩
    · rcases erase_mem ej h with rfl | h
      · exact .inr ⟨t, List.mem_append_right _ List.mem_cons_self⟩
      · exact .inl h
    · exact .inr ⟨x, List.mem_append_left _ h⟩
  · rcases v.pos with ⟨q, h, hq⟩ | ⟨x, q, h, hq⟩
    · rcases erase_mem ej h with rfl | h
      · exact .inr ⟨t, q, List.mem_append_right _ List.mem_cons_self, hq⟩
      · exact .inl ⟨q, h, hq⟩
    · exact .inr ⟨x, q, List.mem_append_left _ h, hq⟩
  · rcases List.mem_append.mp hq with h | h
    · exact v.frng q h
    · cases List.mem_singleton.mp h
      exact ⟨(v.rng p hp).1, (v.rng p hp).2, v.tags t ht⟩
  · have hj : j < ps.length := (List.getElem?_eq_some_iff.mp ej).1
    rw [List.length_eraseIdx_of_lt hj, List.length_append, List.length_singleton]
    have := v.len
    omega
theorem eraseIdx_map {α β : Type} (f : α → β) (l : List α) (i : Nat) : (l.map f).eraseIdx i = (l.eraseIdx i).map f := by
  induction l generalizing i with
  | nil => rfl
  | cons x l ih => cases i with
    | zero => rfl
    | succ i =>
      rw [List.map_cons, List.eraseIdx_cons_succ, List.eraseIdx_cons_succ, List.map_cons, ih]
theorem sk_loop2 {most : Int} {n : Nat} {s3 : Sl} {DD : EndsD} (hD : ∀ (o : Own) (ts : List Str) (fs : Kind) (s6 : Sl), Dk n o → SkInv [] ts fs → DD.nx [.own o, .dat (.int most), .own (.lst []), s3, .own (.lst (ts.map .str)), .own (.lst (fs.map pairD)), s6]) : ∀ (m : Nat) (o : Own) (ps : List Int) (ts : List Str) (fs : Kind) (s6 : Sl), ps.length = m → m ≤ ts.length → ts.length ≤ 8 → Dk (n + 2 * m) o → SkInv ps ts fs →
    whileN (wBl (wOp (gEqA true) (wVar 2) (wLst [0] wNil))) (skBody2 [0] sp__law_below) DD (m + 1) [.own o, .dat (.int most), .own (.lst (ps.map .int)), s3, .own (.lst (ts.map .str)), .own (.lst (fs.map pairD)), s6]
  | 0, o, ps, ts, fs, s6, hl, ht, hz, hd, v => by
    cases ps with
    | nil =>
      rw [List.map_nil, whileN_succ]
      walk_at "dl"
      exact hD o ts fs s6 hd v
    | cons p ps => cases hl
  | m + 1, o, ps, ts, fs, s6, hl, ht, hz, hd, v => by
    have h0 : (ps.map D.int).isEmpty = false := by
      cases ps with
      | nil => cases hl
      | cons p ps => rfl
    rw [whileN_succ]
    walk_at "dl"
    rw [if_pos (by cases ps with | nil => cases hl | cons p ps => rfl)]
    refine ⟨n + (2 * m + 1), o, _, rfl, hd.mono (by omega), by omega, by omega, fun r o1 r0 r1 hd1 => ?_⟩
    walk_at "dl"
    obtain ⟨t, et⟩ : ∃ t, ts[r.toNat]? = some t := ⟨_, List.getElem?_eq_getElem (by omega)⟩
    obtain ⟨x, ex, ep⟩ := popAt_ok (l := ts.map D.str) r0 (by rw [List.length_map]; exact r1) (by rw [List.length_map]; omega)
    rw [List.getElem?_map, et] at ex
    cases ex
    rw [lk_eq ep]
    walk_at "dl"
    refine ⟨n + 2 * m, o1, _, rfl, hd1.mono (by omega), by omega, by omega, fun q o2 q0 q1 hd2 => ?_⟩
    walk_at "dl"
    obtain ⟨p, epp⟩ : ∃ p, ps[q.toNat]? = some p := ⟨_, List.getElem?_eq_getElem (by omega)⟩
    obtain ⟨y, ey, epq⟩ := popAt_ok (l := ps.map D.int) q0 (by rw [List.length_map]; exact q1) (by rw [List.length_map]; omega)
    rw [List.getElem?_map, epp] at ey
    cases ey
    rw [lk_eq epq]
    walk_at "dl"
    refine ⟨by have := v.len; omega, ?_⟩
    have e1 : fs.map pairD ++ [D.tup [D.str t, D.int p]] = (fs ++ [(t, p)]).map pairD := by rw [List.map_append]; rfl
    rw [e1, eraseIdx_map, eraseIdx_map]
    exact sk_loop2 hD m o2 (ps.eraseIdx q.toNat) (ts.eraseIdx r.toNat) (fs ++ [(t, p)]) _ (by rw [List.length_eraseIdx_of_lt (by omega)]; omega) (by rw [List.length_eraseIdx_of_lt (by omega)]; omega) (by rw [List.length_eraseIdx_of_lt (by omega)]; omega) hd2 (v.step et epp)
theorem pl__law_some_kind : PL 7 2 (fun ks => rd__law_some_kind ks sp__law_below sp__law_pick) sp__law_some_kind := fun args QD ED h => by
  obtain ⟨n, o, most, rfl, hd, m0, m1, h⟩ := h
  refine ⟨rfl, ?_⟩
  unfold rd__law_some_kind
  walk_at "dl"
  refine ⟨n + 99, o, _, rfl, hd, by simp, by decide, fun x o1 hx hd1 => ?_⟩
  obtain ⟨p, rfl, hp⟩ : ∃ p : Int, x = .int p ∧ (p = 2 ∨ p = 3 ∨ p = 4) := by
    simp only [List.mem_cons, List.not_mem_nil, or_false] at hx
    rcases hx with rfl | rfl | rfl | rfl | rfl <;> exact ⟨_, rfl, by decide⟩
  walk_at "dl"
  refine ⟨n + 98, o1, _, rfl, hd1, by omega, by omega, fun r o2 r0 r1 hd2 => ?_⟩
  walk_at "dl"
  refine ⟨by omega, by omega, ?_⟩
  have lr : (rangeD r).length = r.toNat := by unfold rangeD; rw [List.length_map, List.length_range]
  refine sk_loop1 (n := n + 50) (fun o3 ps s3 hd3 hp3 hl3 => ?_) (rangeD r) o2 [0, p] .no (hd2.mono (by rw [lr]; omega)) ⟨by simp, ⟨p, by simp, by omega⟩, fun q hq => ?_⟩ (by rw [lr]; simp; omega)
  · walk_at "dl"
    refine ⟨ps.length + 1, ?_⟩
    refine sk_loop2 (n := n) (fun o4 ts fs s6 hd4 v => ?_) ps.length o3 ps tagNames [] .no rfl (by simpa [tagNames] using hl3) (by decide) (hd3.mono (by omega)) ⟨by decide, fun t ht => ht, .inl hp3.zero, .inl hp3.pos, hp3.rng, (fun q hq => nomatch hq), hl3⟩
    walk_at "dl"
    refine h fs o4 ⟨(List.nodup_append.mp v.nd).2.1, ?_, ?_, v.frng, by simpa using v.len⟩ hd4
    · rcases v.zero with h | h
      · cases h
      · exact h
    · rcases v.pos with ⟨_, h, _⟩ | h
      · cases h
      · exact h
  · simp only [List.mem_cons, List.not_mem_nil, or_false] at hq
    rcases hq with rfl | rfl <;> omega
end DL

set_option Elab.async false
set_option maxRecDepth 100000
set_option maxHeartbeats 4000000
/-! DU: trees recognized. -/
namespace DL
open PySem PySem.Spec PyProof.Rows L2
local macro_rules | `(tactic| walk_at "dl") => `(tactic| simp (config := {decide := false}) only [seqE_nx, seqE_rt, seqE_bk, seqE_ct, loopE_nx, loopE_rt, loopE_bk, loopE_ct, e_seq, e_next, e_break, e_cont, e_retN, e_var, q_var_d, q_var_o, e_c, con_d, con_o, con_b, conS_d, conS_o, own_l, own_d, own_i, z_d, z_n, z_t, z_w, sl_d, sl_o, frz_d, frz_o, frz_b, q_frz_d, q_frz_o, frzs_nil, frzs_cons, k_fzs, k_fz, thin_d, thin_o, thin_b, k_th, thins_nil, thins_cons, k_ths, k_ts, setR_nil, setR_cons, k_e, e_op, k_op1, k_op2, k_op3, k_op4, e_un, k_un1, k_un2, e_nil, e_cons, k_co1, k_co2, conL_nil, conL_cons, k_cl, k_cl2, e_b, k_b1, k_b2, e_tup, k_tup1, k_tup2, e_lst, k_lst1, k_lst2, e_dct0, k_ret, e_call, k_ca1, k_ca2, k_retR, e_callR, k_cr1, k_cr2, k_cr3, e_tr, k_tr1, k_tr2, k_tr3, e_bl, k_bl, e_and, k_and, e_or, k_or, e_not, k_not, e_if, k_if, e_ifS, k_ifS, e_notV, k_nv1, k_nv2, e_andV, k_av1, k_av2, e_orV, k_ov1, k_ov2, bD_bl, e_sl, k_sl1, k_sl2, k_sl3, k_sl4, e_part, k_pt1, k_pt2, e_noP, e_dget, k_ge1, k_ge1b, k_ge2, k_ge3, k_ge4, dctD_d, keyD_i, keyD_s, e_mut, q_mu0, k_mu1, k_mu2, q_mu3, k_mu4, e_put, k_pu1, k_pu2, k_pu3, k_pu4, q_pu4, k_pu5, e_aug, q_au0, k_au1, k_au2, k_au3, e_asg, k_as1, k_as2, e_par, k_pa1, k_pa2, e_unp, k_up1, k_up2, e_hName, e_hNil, e_hCons, k_hc, e_hTup, e_hWt, e_drop, k_dr, e_ret, k_rt_d, k_rt_o, k_rt_b, q_out_o, q_out_d, forL_nil, forL_cons, k_fo2, e_for, k_fo1, k_wh, e_itS, k_it1, k_it2, k_it3, walk_l, walk_f, walk_t, e_itR1, k_r11, k_r12, e_itR2, k_r21, k_r22, e_itE, k_en1, k_en2, k_en3, list_l, list_f, e_lc, k_lc, k_lcQ, compL_nil, compL_cons, k_c1, k_c2, k_c3, k_c4, e_yes, wip_nil, wip_cons, unw_nil, unw_cons, g_int, f_add, f_sub, f_mul, f_div, f_mod, f_pow, f_lt, f_le, f_gt, f_ge, add_i, add_s, add_l, add_t, mul_i, mul_l, mul_t, neg_i, ix_l, ix_t, sl_l, sl_f, sl_t, len_l, len_f, len_t, len_s, abs_i, int_i, lof_l, lof_f, lof_t, tof_l, tof_f, tof_t, dof_t, app_l, ext_t, ext_l, tru_b, tru_i, tru_l, tru_t, tru_n, augN, subN, is_bl, is_non, ixN4_0, ixN4_1, ixN4_2, ixN4_3, lk_some, lk_ite, lk_map, lk_bind, ixOf, endsF_nx, endsF_dat, endsF_own, atI_0, atI_1, atI_2, atI_3, eqA_l0, eqA_tup0, eqA_int, eqA_non, bne_f, bne_t, sizeLine_eq,
  List.cons_append, List.nil_append, List.getElem?_cons_zero, List.getElem?_cons_succ, List.set_cons_zero, List.set_cons_succ, List.length_cons, List.length_nil, List.replicate, List.take_succ_cons, List.take_zero, List.not_mem_nil, List.mem_cons, List.map_cons, List.map_nil, if_false, if_true, Option.map_some, Option.bind_some, Option.getD_some, Nat.reduceAdd, Nat.reduceSub, Nat.reduceLeDiff, Nat.reduceEqDiff, Nat.succ_ne_zero, Nat.zero_ne_one, Nat.one_ne_zero, List.isEmpty_nil, List.isEmpty_cons, List.length_map, List.isEmpty_map, beq_iff_eq, Bool.not_eq_true, reduceCtorEq, or_false, or_true, false_or, true_or, and_true, true_and, List.cons.injEq, Option.some.injEq, Sl.own.injEq, Own.lst.injEq, exists_eq', not_false_eq_true, forall_const, forall_eq, forall_eq_or_imp, decide_eq_true_eq, Bool.not_true, Bool.not_false, Bool.false_eq_true, ite_self])

def rd_parts_of (ks : List Nat) : SD :=
  (wRet ks (wDGet1 (wB gDictOf (wCons (wVar 0) wNil)) (wVar 1)))
def partsD (k : Kind) (t : Str) : D := match k.find? (fun p => p.1 == t) with
  | some p => .int p.2
  | none => .non
def sp_parts_of : DSp := fun args Q _ => ∃ (k : Kind) (t : Str), args = [.dat (kindD k), .dat (.str t)] ∧ (k.map (·.1)).Nodup ∧ Q (.dat (partsD k t)) [.dat (kindD k), .dat (.str t)]
theorem pairsD_kind : ∀ k : Kind, pairsD (k.map pairD) = some (k.map fun p => (Sum.inr p.1, D.int p.2))
  | [] => rfl
  | p :: k => by
    show pairsD (.tup [.str p.1, .int p.2] :: k.map pairD) = _
    unfold pairsD
    rw [pairsD_kind k]
    rfl
theorem parts_look {k : Kind} (nd : (k.map (·.1)).Nodup) (t : Str) : (lookKD (mergeKD [] (k.map fun p => (Sum.inr p.1, D.int p.2))) (Sum.inr t)).getD .non = partsD k t := by
  unfold partsD
  cases h : k.find? (fun p => p.1 == t) with
  | none =>
    have h' := List.find?_eq_none.mp h
    rw [mergeKD_out]
    · rfl
    · intro q hq
      obtain ⟨p, hp, rfl⟩ := List.mem_map.mp hq
      intro e
      have e' : p.1 = t := by injection e
      exact h' p hp (by simpa using e')
  | some p =>
    have h1 := List.mem_of_find?_eq_some h
    have h2 : p.1 = t := by simpa using List.find?_some h
    rw [mergeKD_in (v := D.int p.2)]
    · rfl
    · rw [List.map_map]
      have e : (k.map ((fun q : Key × D => q.1) ∘ fun p => (Sum.inr p.1, D.int p.2))) = (k.map (·.1)).map Sum.inr := by rw [List.map_map]; rfl
      rw [e]
      exact List.Pairwise.map (S := (· ≠ ·)) Sum.inr (fun a b h e => h (by injection e)) nd
    · exact List.mem_map.mpr ⟨p, h1, by rw [h2]⟩
theorem pl_parts_of : PL 2 2 rd_parts_of sp_parts_of := fun args QD ED h => by
  obtain ⟨k, t, rfl, nd, h⟩ := h
  refine ⟨rfl, ?_⟩
  unfold rd_parts_of kindD
  walk_at "dl"
  rw [lk_eq (pairsD_kind k), parts_look nd]
  exact h

/-! ### data that is looked at -/
def rd_is_node (ks : List Nat) (sp_parts_of : DSp) : SD :=
  (wSeq (wIfS (wOr (wNot (wTr (wB gIsi (wCons (wVar 1) (wCons (wC (.ty "tuple")) wNil))))) (wOr (wBl (wOp (gEqA false) (wVar 1) (wTup ks wNil))) (wNot (wTr (wB gIsi (wCons (wOp gIx (wVar 1) (wC (.int 0))) (wCons (wC (.ty "str")) wNil))))))) (wRet ks (wC (.bl false))) wNext)
  (wRet ks (wOp (gEqA false) (wCall ks sp_parts_of (wCons (wVar 0) (wCons (wOp gIx (wVar 1) (wC (.int 0))) wNil))) (wOp (gInt fSub) (wB gLen (wCons (wVar 1) wNil)) (wC (.int 1))))))
mutual
/-- nothing but none, bools, numbers, texts, lists, tuples, empty dicts -/
def Pl : D → Prop
  | .non | .bl _ => True
  | .int i => 0 ≤ i ∧ i ≤ 9
  | .str x => PyData.strOk x = true ∧ x.length ≤ 100
  | .lst l => Pls l
  | .tup l => Pls l
  | .dct [] => True
  | .dct (_ :: _) => False
  | .ins _ _ | .fzl _ | .wt _ | .ty _ | .cls _ => False
def Pls : List D → Prop
  | [] => True
  | d :: ds => Pl d ∧ Pls ds
end
theorem Pls_mem : ∀ {l : List D} {d : D}, Pls l → d ∈ l → Pl d
  | d' :: l, d, h, hm => by
    unfold Pls at h
    rcases List.mem_cons.mp hm with rfl | hm
    · exact h.1
    · exact Pls_mem h.2 hm
theorem Pls_of : ∀ {l : List D}, (∀ d ∈ l, Pl d) → Pls l
  | [], _ => by unfold Pls; exact True.intro
  | d :: l, h => by unfold Pls; exact ⟨h d List.mem_cons_self, Pls_of fun x hx => h x (List.mem_cons_of_mem _ hx)⟩
def isTup : D → Bool
  | .tup _ => true
  | _ => false
def isStr : D → Bool
  | .str _ => true
  | _ => false
theorem isi_tup {d : D} (h : Pl d) : gIsi [d, .ty "tuple"] = some (.d (.bl (isTup d))) := by
  cases d <;> first | rfl | (exfalso; unfold Pl at h; exact h) | (rename_i l; cases l <;> first | rfl | (exfalso; unfold Pl at h; exact h))
theorem isi_str {d : D} (h : Pl d) : gIsi [d, .ty "str"] = some (.d (.bl (isStr d))) := by
  cases d <;> first | rfl | (exfalso; unfold Pl at h; exact h) | (rename_i l; cases l <;> first | rfl | (exfalso; unfold Pl at h; exact h))
def isNodeB (k : Kind) : D → Bool
  | .tup (.str t :: l) => decide ((t, (l.length : Int)) ∈ k)
  | _ => false
def sp_is_node : DSp := fun args Q _ => ∃ (k : Kind) (d : D), args = [.dat (kindD k), .dat d] ∧ (k.map (·.1)).Nodup ∧ Pl d ∧ Q (.dat (.bl (isNodeB k d))) [.dat (kindD k), .dat d]
theorem parts_eq {k : Kind} (nd : (k.map (·.1)).Nodup) (t : Str) (n : Int) : gEqA false (partsD k t) (.int n) = some (.d (.bl (decide ((t, n) ∈ k)))) := by
  unfold partsD
  cases h : k.find? (fun p => p.1 == t) with
  | none =>
    have h' := List.find?_eq_none.mp h
    have e : decide ((t, n) ∈ k) = false := decide_eq_false fun z => h' _ z (by simp)
    rw [e]
    exact eqA_non
  | some p =>
    have h1 := List.mem_of_find?_eq_some h
    have h2 : p.1 = t := by simpa using List.find?_some h
    show gEqA false (.int p.2) (.int n) = _
    rw [eqA_int, bne_f]
    congr 3
    by_cases e : p.2 = n
    · rw [decide_eq_true (by rw [← e, ← h2]; exact h1)]
      simpa using e
    · rw [decide_eq_false]
      · simpa using e
      · intro z
        have hin : ∀ (l : Kind), (l.map (·.1)).Nodup → p ∈ l → (t, n) ∈ l → p.2 = n := by
          intro l
          induction l with
          | nil => intro _ h; cases h
          | cons q l ih =>
            intro nd hp hz
            rw [List.map_cons, List.nodup_cons] at nd
            rcases List.mem_cons.mp hp with rfl | hp <;> rcases List.mem_cons.mp hz with e2 | hz
            · rw [← e2]
            · exact absurd (by rw [h2]; exact List.mem_map.mpr ⟨_, hz, rfl⟩) nd.1
            · exact absurd (by rw [← e2]; show t ∈ _; rw [← h2]; exact List.mem_map_of_mem hp) nd.1
            · exact ih nd.2 hp hz
        exact e (hin k nd h1 z)
theorem pl_is_node : PL 2 2 (fun ks => rd_is_node ks sp_parts_of) sp_is_node := fun args QD ED h => by
  obtain ⟨k, d, rfl, nd, hp, h⟩ := h
  refine ⟨rfl, ?_⟩
  unfold rd_is_node
  walk_at "dl"
  rw [lk_eq (isi_tup hp)]
  walk_at "dl"
  cases d with
  | tup l =>
    rw [if_neg (by simp [isTup])]
    cases l with
    | nil =>
      walk_at "dl"
      exact h
    | cons x l =>
      have hx : Pl x := by unfold Pl Pls at hp; exact hp.1
      walk_at "dl"
      rw [lk_eq (isi_str hx)]
      cases x with
      | str t =>
        have e : isStr (.str t) = true := rfl
        rw [e]
        walk_at "dl"
        refine ⟨k, t, rfl, nd, ?_⟩
        walk_at "dl"
        have e2 : ((l.length + 1 : Nat) : Int) - 1 = (l.length : Int) := by omega
        rw [e2, lk_eq (parts_eq nd t _)]
        walk_at "dl"
        exact h
      | _ =>
        simp only [isStr]
        walk_at "dl"
        exact h
  | _ =>
    rw [if_pos (by simp [isTup])]
    exact h

def rd_is_tree (ks : List Nat) (sp_is_node : DSp) : SD :=
  (wSeq (wAsg ks 2 (wLst ks (wCons (wVar 1) wNil)))
  (wSeq (wWhile (wBl (wOp (gEqA true) (wVar 2) (wLst ks wNil))) (wSeq (wAsg ks 3 (wMut ks 2 gPop wNil))
  (wSeq (wIfS (wNot (wTr (wCall ks sp_is_node (wCons (wVar 0) (wCons (wVar 3) wNil))))) (wRet ks (wC (.bl false))) wNext)
  (wDrop (wMut ks 2 gExtend (wCons (wSl gSl (wVar 3) (wPart (wC (.int 1))) wNoP) wNil))))))
  (wRet ks (wC (.bl true)))))
mutual
def isTreeB (k : Kind) : D → Bool
  | .tup (.str t :: l) => decide ((t, (l.length : Int)) ∈ k) && allTreeB k l
  | .tup [] | .tup (.non :: _) | .tup (.bl _ :: _) | .tup (.int _ :: _) | .tup (.lst _ :: _) | .tup (.tup _ :: _) | .tup (.dct _ :: _) | .tup (.ins _ _ :: _) | .tup (.fzl _ :: _) | .tup (.wt _ :: _) | .tup (.ty _ :: _) | .tup (.cls _ :: _) => false
  | .non | .bl _ | .int _ | .str _ | .lst _ | .dct _ | .ins _ _ | .fzl _ | .wt _ | .ty _ | .cls _ => false
def allTreeB (k : Kind) : List D → Bool
  | [] => true
  | d :: ds => isTreeB k d && allTreeB k ds
end
mutual
/-- how many objects there are, counted as a tree -/
def cnt : D → Nat
  | .tup l => 1 + cnts l
  | .lst l => 1 + cnts l
  | _ => 1
def cnts : List D → Nat
  | [] => 0
  | d :: ds => cnt d + cnts ds
end
theorem cnts_app : ∀ (a b : List D), cnts (a ++ b) = cnts a + cnts b
  | [], b => by rw [List.nil_append]; show _ = 0 + _; omega
  | d :: a, b => by rw [List.cons_append]; show cnt d + cnts (a ++ b) = cnt d + cnts a + cnts b; rw [cnts_app a b]; omega
theorem cnt_pos (d : D) : 1 ≤ cnt d := by cases d <;> unfold cnt <;> omega
theorem cnts_len : ∀ l : List D, l.length ≤ cnts l
  | [] => Nat.le_refl _
  | d :: l => by
    show l.length + 1 ≤ cnt d + cnts l
    have := cnts_len l
    have := cnt_pos d
    omega
theorem all_app (k : Kind) : ∀ (a b : List D), allTreeB k (a ++ b) = (allTreeB k a && allTreeB k b)
  | [], b => by rw [List.nil_append]; unfold allTreeB; rfl
  | d :: a, b => by
    show (isTreeB k d && allTreeB k (a ++ b)) = ((isTreeB k d && allTreeB k a) && allTreeB k b)
    rw [all_app k a b, Bool.and_assoc]
theorem tree_node {k : Kind} {d : D} (h : isNodeB k d = false) : isTreeB k d = false := by
  unfold isNodeB at h
  split at h
  · unfold isTreeB; rw [h]; rfl
  · rename_i hn
    cases d with
    | tup l =>
      cases l with
      | nil => unfold isTreeB; rfl
      | cons x l => cases x <;> first | (unfold isTreeB; rfl) | exact absurd rfl (hn _ _)
    | _ => unfold isTreeB; rfl
theorem node_shape {k : Kind} {d : D} (h : isNodeB k d = true) : ∃ t l, d = .tup (.str t :: l) ∧ (t, (l.length : Int)) ∈ k := by
  unfold isNodeB at h
  split at h
  · exact ⟨_, _, rfl, of_decide_eq_true h⟩
  · cases h
def sp_is_tree : DSp := fun args Q _ => ∃ (k : Kind) (d : D), args = [.dat (kindD k), .dat d] ∧ (k.map (·.1)).Nodup ∧ Pl d ∧ cnt d < 900000 ∧ Q (.dat (.bl (isTreeB k d))) [.dat (kindD k), .dat d]
abbrev itBody (ks : List Nat) (sp_is_node : DSp) : SD := (wSeq (wAsg ks 3 (wMut ks 2 gPop wNil))
  (wSeq (wIfS (wNot (wTr (wCall ks sp_is_node (wCons (wVar 0) (wCons (wVar 3) wNil))))) (wRet ks (wC (.bl false))) wNext)
  (wDrop (wMut ks 2 gExtend (wCons (wSl gSl (wVar 3) (wPart (wC (.int 1))) wNoP) wNil)))))
theorem Pls_app {a b : List D} (ha : Pls a) (hb : Pls b) : Pls (a ++ b) := Pls_of fun d hd => (List.mem_append.mp hd).elim (Pls_mem ha) (Pls_mem hb)
theorem it_loop {k : Kind} {thing : D} {DD : EndsD} (nd : (k.map (·.1)).Nodup) (res : Bool) (hN : res = true → ∀ s3, DD.nx [.dat (kindD k), .dat thing, .own (.lst []), s3]) (hF : res = false → ∀ (w : List D) (s3 : Sl), DD.rt (.dat (.bl false)) [.dat (kindD k), .dat thing, .own (.lst w), s3]) : ∀ (m : Nat) (w : List D) (s3 : Sl), cnts w ≤ m → cnts w < 900000 → Pls w → allTreeB k w = res →
    whileN (wBl (wOp (gEqA true) (wVar 2) (wLst [] wNil))) (itBody [] sp_is_node) DD (m + 1) [.dat (kindD k), .dat thing, .own (.lst w), s3] := by
  intro m
  induction m with
  | zero =>
    intro w s3 hm hz hp hr
    cases w with
    | nil =>
      rw [whileN_succ]
      walk_at "dl"
      exact hN hr.symm s3
    | cons d w =>
      exfalso
      have : cnts (d :: w) = cnt d + cnts w := rfl
      have := cnt_pos d
      omega
  | succ m ih =>
    intro w s3 hm hz hp hr
    rcases List.eq_nil_or_concat w with rfl | ⟨w, d, rfl⟩
    · rw [whileN_succ]
      walk_at "dl"
      exact hN hr.symm s3
    · rw [List.concat_eq_append] at *
      have hd : Pl d := Pls_mem hp (List.mem_append_right _ List.mem_cons_self)
      have hw : Pls w := Pls_of fun x hx => Pls_mem hp (List.mem_append_left _ hx)
      have hc : cnts (w ++ [d]) = cnts w + cnt d := by rw [cnts_app]; show _ + (cnt d + 0) = _; omega
      have he : (w ++ [d]).isEmpty = false := by cases w <;> rfl
      rw [whileN_succ]
      walk_at "dl"
      rw [he]
      walk_at "dl"
      rw [lk_eq pop_ok]
      walk_at "dl"
      refine ⟨k, d, rfl, nd, hd, ?_⟩
      walk_at "dl"
      rw [all_app] at hr
      have ha : allTreeB k [d] = isTreeB k d := by unfold allTreeB; unfold allTreeB; rw [Bool.and_true]
      rw [ha] at hr
      cases hn : isNodeB k d with
      | false =>
        walk_at "dl"
        rw [tree_node hn, Bool.and_false] at hr
        exact hF hr.symm _ _
      | true =>
        obtain ⟨t, l, rfl, hin⟩ := node_shape hn
        walk_at "dl"
        have e1 : cutD (D.str t :: l) (some 1) none = l := cutD_from 1
        rw [e1]
        have e2 : cnt (.tup (.str t :: l)) = 2 + cnts l := by
          show 1 + (1 + cnts l) = _
          omega
        have hl := cnts_len (w ++ l)
        rw [cnts_app] at hl
        refine ⟨by rw [List.length_append] at hl; omega, ?_⟩
        refine ih (w ++ l) _ (by rw [cnts_app]; omega) (by rw [cnts_app]; omega) (Pls_app hw ?_) ?_
        · unfold Pl at hd; unfold Pls at hd; exact hd.2
        · rw [all_app, ← hr]
          congr 1
          conv => rhs; unfold isTreeB
          rw [decide_eq_true hin, Bool.true_and]
theorem pl_is_tree : PL 4 2 (fun ks => rd_is_tree ks sp_is_node) sp_is_tree := fun args QD ED h => by
  obtain ⟨k, d, rfl, nd, hp, hc, h⟩ := h
  refine ⟨rfl, ?_⟩
  unfold rd_is_tree
  walk_at "dl"
  refine ⟨cnts [d] + 1, ?_⟩
  have e0 : cnts [d] = cnt d := by show cnt d + 0 = _; omega
  have ha : allTreeB k [d] = isTreeB k d := by unfold allTreeB; unfold allTreeB; rw [Bool.and_true]
  refine it_loop nd (isTreeB k d) (fun e s3 => ?_) (fun e w s3 => ?_) (cnts [d]) [d] .no (Nat.le_refl _) (by omega) (by unfold Pls; unfold Pls; exact ⟨hp, True.intro⟩) ha
  · walk_at "dl"
    rw [← e]; exact h
  · walk_at "dl"
    rw [← e]; exact h

/-! ### the number of tags -/
def rd_nodes_of (ks : List Nat) : SD :=
  (wSeq (wPar ks [1, 2] (wCons (wLst ks (wCons (wVar 0) wNil)) (wCons (wC (.int 0)) wNil)))
  (wSeq (wWhile (wBl (wOp (gInt fLt) (wVar 2) (wB gLen (wCons (wVar 1) wNil)))) (wSeq (wDrop (wMut ks 1 gExtend (wCons (wSl gSl (wOp gIx (wVar 1) (wVar 2)) (wPart (wC (.int 1))) wNoP) wNil)))
  (wAug ks 2 gAddN (wC (.int 1)))))
  (wRet ks (wVar 1))))
def rd_size_of (ks : List Nat) (sp_nodes_of : DSp) : SD :=
  (wRet ks (wB gLen (wCons (wCall ks sp_nodes_of (wCons (wVar 0) wNil)) wNil)))
mutual
/-- how many tags a tree has -/
def tagN : D → Nat
  | .tup (_ :: l) => 1 + tagNs l
  | .tup [] | .non | .bl _ | .int _ | .str _ | .lst _ | .dct _ | .ins _ _ | .fzl _ | .wt _ | .ty _ | .cls _ => 1
def tagNs : List D → Nat
  | [] => 0
  | d :: ds => tagN d + tagNs ds
end
theorem tagNs_app : ∀ (a b : List D), tagNs (a ++ b) = tagNs a + tagNs b
  | [], b => by rw [List.nil_append]; show _ = 0 + _; omega
  | d :: a, b => by rw [List.cons_append]; show tagN d + tagNs (a ++ b) = tagN d + tagNs a + tagNs b; rw [tagNs_app a b]; omega
theorem tagN_pos (d : D) : 1 ≤ tagN d := by
  cases d with
  | tup l => cases l with
    | nil => exact Nat.le_refl _
    | cons x l => show 1 ≤ 1 + tagNs l; omega
  | _ => exact Nat.le_refl _
theorem tagNs_len : ∀ l : List D, l.length ≤ tagNs l
  | [] => Nat.le_refl _
  | d :: l => by
    show l.length + 1 ≤ tagN d + tagNs l
    have := tagNs_len l
    have := tagN_pos d
    omega
mutual
/-- tuples that are not empty, all the way down: trees -/
def TupT : D → Prop
  | .tup (_ :: l) => TupTs l
  | .tup [] | .non | .bl _ | .int _ | .str _ | .lst _ | .dct _ | .ins _ _ | .fzl _ | .wt _ | .ty _ | .cls _ => False
def TupTs : List D → Prop
  | [] => True
  | d :: ds => TupT d ∧ TupTs ds
end
theorem TupTs_mem : ∀ {l : List D} {d : D}, TupTs l → d ∈ l → TupT d
  | d' :: l, d, h, hm => by
    have h : TupT d' ∧ TupTs l := h
    rcases List.mem_cons.mp hm with rfl | hm
    · exact h.1
    · exact TupTs_mem h.2 hm
theorem TupTs_of : ∀ {l : List D}, (∀ d ∈ l, TupT d) → TupTs l
  | [], _ => True.intro
  | d :: l, h => ⟨h d List.mem_cons_self, TupTs_of fun x hx => h x (List.mem_cons_of_mem _ hx)⟩
theorem tupT_shape {d : D} (h : TupT d) : ∃ x l, d = .tup (x :: l) ∧ TupTs l := by
  cases d with
  | tup l => cases l with
    | nil => exact h.elim
    | cons x l => exact ⟨x, l, rfl, h⟩
  | _ => exact h.elim
def sp_nodes_of : DSp := fun args Q _ => ∃ (d : D), args = [.dat d] ∧ TupT d ∧ tagN d < 900000 ∧ ∀ l : List D, l.length = tagN d → Q (.own (.lst l)) [.dat d]
abbrev noBody (ks : List Nat) : SD := (wSeq (wDrop (wMut ks 1 gExtend (wCons (wSl gSl (wOp gIx (wVar 1) (wVar 2)) (wPart (wC (.int 1))) wNoP) wNil)))
  (wAug ks 2 gAddN (wC (.int 1))))
theorem no_loop {d : D} {DD : EndsD} {N : Nat} (hz : N < 900000) (hN : ∀ (l : List D) (at_ : Int), l.length = N → DD.nx [.dat d, .own (.lst l), .dat (.int at_)]) : ∀ (m at_ : Nat) (l : List D), N - at_ = m → at_ ≤ l.length → at_ + tagNs (l.drop at_) = N → TupTs (l.drop at_) →
    whileN (wBl (wOp (gInt fLt) (wVar 2) (wB gLen (wCons (wVar 1) wNil)))) (noBody []) DD (m + 1) [.dat d, .own (.lst l), .dat (.int (at_ : Nat))] := by
  intro m
  induction m with
  | zero =>
    intro at_ l hm h1 h2 h3
    have h4 := tagNs_len (l.drop at_)
    rw [List.length_drop] at h4
    have e : l.length = at_ := by omega
    rw [whileN_succ]
    walk_at "dl"
    rw [if_neg (by omega)]
    exact hN l _ (by rw [List.drop_of_length_le (by omega)] at h2; have : tagNs [] = 0 := rfl; omega)
  | succ m ih =>
    intro at_ l hm h1 h2 h3
    have h4 := tagNs_len (l.drop at_)
    rw [List.length_drop] at h4
    rw [whileN_succ]
    walk_at "dl"
    by_cases hlt : at_ < l.length
    · rw [if_pos (by omega)]
      have ed : l.drop at_ = l[at_] :: l.drop (at_ + 1) := List.drop_eq_getElem_cons hlt
      rw [ed] at h2 h3
      have h3' : TupT l[at_] ∧ TupTs (l.drop (at_ + 1)) := h3
      obtain ⟨x, r, ex, hr⟩ := tupT_shape h3'.1
      have e1 : atI l (at_ : Int) = some (.tup (x :: r)) := by rw [atI_nat rfl, List.getElem?_eq_getElem hlt, ex]
      rw [lk_eq e1]
      walk_at "dl"
      have e2 : cutD (x :: r) (some 1) none = r := cutD_from 1
      rw [e2]
      have h2' : at_ + (tagN l[at_] + tagNs (l.drop (at_ + 1))) = N := h2
      have e3 : tagN l[at_] = 1 + tagNs r := by rw [ex]; rfl
      have h5 := tagNs_len r
      have h6 := tagNs_len (l.drop (at_ + 1))
      rw [List.length_drop] at h6
      refine ⟨by omega, ?_⟩
      have e4 : ((at_ : Nat) : Int) + 1 = ((at_ + 1 : Nat) : Int) := by omega
      rw [e4]
      have e5 : (l ++ r).drop (at_ + 1) = l.drop (at_ + 1) ++ r := List.drop_append_of_le_length (by omega)
      refine ih (at_ + 1) (l ++ r) (by omega) (by rw [List.length_append]; omega) ?_ ?_
      · rw [e5, tagNs_app]; omega
      · rw [e5]
        exact TupTs_of fun y hy => (List.mem_append.mp hy).elim (TupTs_mem h3'.2) (TupTs_mem hr)
    · rw [if_neg (by omega)]
      have e : l.length = at_ := by omega
      exact hN l _ (by rw [List.drop_of_length_le (by omega)] at h2; have : tagNs [] = 0 := rfl; omega)
theorem pl_nodes_of : PL 3 1 rd_nodes_of sp_nodes_of := fun args QD ED h => by
  obtain ⟨d, rfl, ht, hz, h⟩ := h
  refine ⟨rfl, ?_⟩
  unfold rd_nodes_of
  walk_at "dl"
  refine ⟨tagN d + 1, ?_⟩
  have e0 : tagNs [d] = tagN d := by show tagN d + 0 = _; omega
  refine no_loop hz (fun l at_ hl => ?_) (tagN d) 0 [d] (by omega) (Nat.zero_le _) (by rw [List.drop_zero, e0]; omega) ⟨ht, True.intro⟩
  walk_at "dl"
  exact h l hl
def sp_size_of : DSp := fun args Q _ => ∃ (d : D), args = [.dat d] ∧ TupT d ∧ tagN d < 900000 ∧ Q (.dat (.int (tagN d : Nat))) [.dat d]
theorem pl_size_of : PL 1 1 (fun ks => rd_size_of ks sp_nodes_of) sp_size_of := fun args QD ED h => by
  obtain ⟨d, rfl, ht, hz, h⟩ := h
  refine ⟨rfl, ?_⟩
  unfold rd_size_of
  walk_at "dl"
  refine ⟨d, rfl, ht, hz, fun l hl => ?_⟩
  walk_at "dl"
  rw [hl]
  exact h
end DL

set_option Elab.async false
set_option maxRecDepth 100000
set_option maxHeartbeats 4000000
/-! DV: the texts of data; trees drawn; the law's own look. -/
namespace DL
open PySem PySem.Spec PyProof.Rows L2
local macro_rules | `(tactic| walk_at "dl") => `(tactic| simp (config := {decide := false}) only [seqE_nx, seqE_rt, seqE_bk, seqE_ct, loopE_nx, loopE_rt, loopE_bk, loopE_ct, e_seq, e_next, e_break, e_cont, e_retN, e_var, q_var_d, q_var_o, e_c, con_d, con_o, con_b, conS_d, conS_o, own_l, own_d, own_i, z_d, z_n, z_t, z_w, sl_d, sl_o, frz_d, frz_o, frz_b, q_frz_d, q_frz_o, frzs_nil, frzs_cons, k_fzs, k_fz, thin_d, thin_o, thin_b, k_th, thins_nil, thins_cons, k_ths, k_ts, setR_nil, setR_cons, k_e, e_op, k_op1, k_op2, k_op3, k_op4, e_un, k_un1, k_un2, e_nil, e_cons, k_co1, k_co2, conL_nil, conL_cons, k_cl, k_cl2, e_b, k_b1, k_b2, e_tup, k_tup1, k_tup2, e_lst, k_lst1, k_lst2, e_dct0, k_ret, e_call, k_ca1, k_ca2, k_retR, e_callR, k_cr1, k_cr2, k_cr3, e_tr, k_tr1, k_tr2, k_tr3, e_bl, k_bl, e_and, k_and, e_or, k_or, e_not, k_not, e_if, k_if, e_ifS, k_ifS, e_notV, k_nv1, k_nv2, e_andV, k_av1, k_av2, e_orV, k_ov1, k_ov2, bD_bl, e_sl, k_sl1, k_sl2, k_sl3, k_sl4, e_part, k_pt1, k_pt2, e_noP, e_dget, k_ge1, k_ge1b, k_ge2, k_ge3, k_ge4, dctD_d, keyD_i, keyD_s, e_mut, q_mu0, k_mu1, k_mu2, q_mu3, k_mu4, e_put, k_pu1, k_pu2, k_pu3, k_pu4, q_pu4, k_pu5, e_aug, q_au0, k_au1, k_au2, k_au3, e_asg, k_as1, k_as2, e_par, k_pa1, k_pa2, e_unp, k_up1, k_up2, e_hName, e_hNil, e_hCons, k_hc, e_hTup, e_hWt, e_drop, k_dr, e_ret, k_rt_d, k_rt_o, k_rt_b, q_out_o, q_out_d, forL_nil, forL_cons, k_fo2, e_for, k_fo1, k_wh, e_itS, k_it1, k_it2, k_it3, walk_l, walk_f, walk_t, e_itR1, k_r11, k_r12, e_itR2, k_r21, k_r22, e_itE, k_en1, k_en2, k_en3, list_l, list_f, e_lc, k_lc, k_lcQ, compL_nil, compL_cons, k_c1, k_c2, k_c3, k_c4, e_yes, wip_nil, wip_cons, unw_nil, unw_cons, g_int, f_add, f_sub, f_mul, f_div, f_mod, f_pow, f_lt, f_le, f_gt, f_ge, add_i, add_s, add_l, add_t, mul_i, mul_l, mul_t, neg_i, ix_l, ix_t, sl_l, sl_f, sl_t, len_l, len_f, len_t, len_s, abs_i, int_i, lof_l, lof_f, lof_t, tof_l, tof_f, tof_t, dof_t, app_l, ext_t, ext_l, tru_b, tru_i, tru_l, tru_t, tru_n, augN, subN, is_bl, is_non, ixN4_0, ixN4_1, ixN4_2, ixN4_3, lk_some, lk_ite, lk_map, lk_bind, ixOf, endsF_nx, endsF_dat, endsF_own, atI_0, atI_1, atI_2, atI_3, eqA_l0, eqA_tup0, eqA_int, eqA_non, bne_f, bne_t, sizeLine_eq,
  List.cons_append, List.nil_append, List.getElem?_cons_zero, List.getElem?_cons_succ, List.set_cons_zero, List.set_cons_succ, List.length_cons, List.length_nil, List.replicate, List.take_succ_cons, List.take_zero, List.not_mem_nil, List.mem_cons, List.map_cons, List.map_nil, if_false, if_true, Option.map_some, Option.bind_some, Option.getD_some, Nat.reduceAdd, Nat.reduceSub, Nat.reduceLeDiff, Nat.reduceEqDiff, Nat.succ_ne_zero, Nat.zero_ne_one, Nat.one_ne_zero, List.isEmpty_nil, List.isEmpty_cons, List.length_map, List.isEmpty_map, beq_iff_eq, Bool.not_eq_true, reduceCtorEq, or_false, or_true, false_or, true_or, and_true, true_and, List.cons.injEq, Option.some.injEq, Sl.own.injEq, Own.lst.injEq, exists_eq', not_false_eq_true, forall_const, forall_eq, forall_eq_or_imp, decide_eq_true_eq, Bool.not_true, Bool.not_false, Bool.false_eq_true, ite_self])

mutual
/-- a bound of the length of a text, of the depth -/
def tl : D → Nat
  | .str x => 10 * x.length + 2
  | .tup l => 3 + tls l
  | .lst l => 3 + tls l
  | _ => 5
def tls : List D → Nat
  | [] => 0
  | d :: ds => tl d + 2 + tls ds
end
mutual
def dp : D → Nat
  | .tup l => dps l + 1
  | .lst l => dps l + 1
  | .dct _ => 1
  | _ => 0
def dps : List D → Nat
  | [] => 0
  | d :: ds => max (dp d) (dps ds)
end
theorem textFrom_le : ∀ (ts : List Str) (k : Nat) (acc : Str), (textFrom k acc ts).length ≤ acc.length + piled ts
  | [], k, acc => by show acc.length ≤ acc.length + 0; omega
  | t :: r, k, acc => by
    have ih := textFrom_le r (k + 1) (acc ++ (if k > 0 then ", " else "" : String) ++ t)
    have e : (acc ++ (if k > 0 then ", " else "" : String) ++ t).length = acc.length + (if k > 0 then 2 else 0) + t.length := by
      rw [strLen_append, strLen_append]
      split <;> rfl
    show (textFrom (k + 1) _ r).length ≤ _
    rw [piled_cons]
    have : (if k > 0 then 2 else 0 : Nat) ≤ 2 := by split <;> omega
    omega
theorem listText_le (ts : List Str) : (listText ts).length ≤ 3 + piled ts := by
  unfold listText
  rw [strLen_append]
  have := textFrom_le ts 0 "["
  have e1 : (Str.ofString "[").length = 1 := by decide
  have e2 : (Str.ofString "]").length = 1 := by decide
  omega
theorem tupleText_le (ts : List Str) : (tupleText ts).length ≤ 3 + piled ts := by
  unfold tupleText
  rw [strLen_append, strLen_append]
  have e1 : (Str.ofString "(").length = 1 := by decide
  have e2 : (Str.ofString (if (ts.length == 1) = true then ",)" else ")")).length ≤ 2 := by split <;> decide
  by_cases h : ts = []
  · subst h
    have : (Str.join ", " ([] : List Str)).length = 0 := by decide
    have e3 : (Str.ofString (if (([] : List Str).length == 1) = true then ",)" else ")")).length = 1 := by decide
    omega
  · have := join_length_add ts h
    omega
theorem str_int9 {i : Int} (h0 : 0 ≤ i) (h9 : i ≤ 9) : (Str.ofString (toString i)).length ≤ 5 := by
  have : i = 0 ∨ i = 1 ∨ i = 2 ∨ i = 3 ∨ i = 4 ∨ i = 5 ∨ i = 6 ∨ i = 7 ∨ i = 8 ∨ i = 9 := by omega
  rcases this with rfl | rfl | rfl | rfl | rfl | rfl | rfl | rfl | rfl | rfl <;> decide
theorem strOk_lt {x : Str} (h : PyData.strOk x = true) : ∀ c ∈ x.cps.toList, c < 16 ^ 8 := fun c hc => by
  unfold PyData.strOk at h
  rw [← Array.all_toList, List.all_eq_true] at h
  have := h c hc
  have := of_decide_eq_true this
  omega
mutual
theorem pl_text : ∀ d : D, Pl d → ∃ p, pyR d = some p ∧ p.showable = true ∧ p.depth = dp d ∧ p.shown.length ≤ tl d
  | .non, _ => ⟨_, rfl, rfl, rfl, by decide⟩
  | .bl c, _ => ⟨_, rfl, rfl, rfl, by cases c <;> decide⟩
  | .int i, h => ⟨_, rfl, by
      have h : 0 ≤ i ∧ i ≤ 9 := by unfold Pl at h; exact h
      have : i = 0 ∨ i = 1 ∨ i = 2 ∨ i = 3 ∨ i = 4 ∨ i = 5 ∨ i = 6 ∨ i = 7 ∨ i = 8 ∨ i = 9 := by omega
      rcases this with rfl | rfl | rfl | rfl | rfl | rfl | rfl | rfl | rfl | rfl <;> decide +kernel, rfl, by
      have h : 0 ≤ i ∧ i ≤ 9 := by unfold Pl at h; exact h
      exact str_int9 h.1 h.2⟩
  | .str x, h => ⟨_, rfl, rfl, rfl, by
      have h : PyData.strOk x = true ∧ x.length ≤ 100 := by unfold Pl at h; exact h
      exact PySem.StrLaws.reprText_len x (strOk_lt h.1)⟩
  | .lst l, h => by
    obtain ⟨ps, h1, h2, h3, h4⟩ := pls_text l (by unfold Pl at h; exact h)
    refine ⟨.list ps, by unfold pyR; rw [h1]; rfl, by unfold PyData.showable; exact h2, ?_, ?_⟩
    · show PyData.depthAll ps + 1 = dps l + 1
      rw [h3]
    · have := listText_le (PyData.shownAll ps)
      show (listText (PyData.shownAll ps)).length ≤ 3 + tls l
      omega
  | .tup l, h => by
    obtain ⟨ps, h1, h2, h3, h4⟩ := pls_text l (by unfold Pl at h; exact h)
    refine ⟨.tuple ps, by unfold pyR; rw [h1]; rfl, by unfold PyData.showable; exact h2, ?_, ?_⟩
    · show PyData.depthAll ps + 1 = dps l + 1
      rw [h3]
    · have := tupleText_le (PyData.shownAll ps)
      show (tupleText (PyData.shownAll ps)).length ≤ 3 + tls l
      omega
  | .dct [], _ => ⟨.dict [], by unfold pyR; rfl, rfl, rfl, by decide⟩
  | .dct (_ :: _), h => by unfold Pl at h; exact h.elim
  | .ins _ _, h => by unfold Pl at h; exact h.elim
  | .fzl _, h => by unfold Pl at h; exact h.elim
  | .wt _, h => by unfold Pl at h; exact h.elim
  | .ty _, h => by unfold Pl at h; exact h.elim
  | .cls _, h => by unfold Pl at h; exact h.elim
theorem pls_text : ∀ l : List D, Pls l → ∃ ps, pyRs l = some ps ∧ PyData.showableAll ps = true ∧ PyData.depthAll ps = dps l ∧ piled (PyData.shownAll ps) ≤ tls l
  | [], _ => ⟨[], rfl, rfl, rfl, Nat.le_refl _⟩
  | d :: l, h => by
    have h : Pl d ∧ Pls l := by unfold Pls at h; exact h
    obtain ⟨p, a1, a2, a3, a4⟩ := pl_text d h.1
    obtain ⟨ps, b1, b2, b3, b4⟩ := pls_text l h.2
    refine ⟨p :: ps, by unfold pyRs; rw [a1, b1]; rfl, by unfold PyData.showableAll; rw [a2, b2]; rfl, ?_, ?_⟩
    · show max p.depth (PyData.depthAll ps) = max (dp d) (dps l)
      rw [a3, b3]
    · show piled (p.shown :: PyData.shownAll ps) ≤ tl d + 2 + tls l
      rw [piled_cons]
      omega
end
theorem text_ok {d : D} (h : Pl d) (h1 : dp d ≤ 60) (h2 : tl d ≤ 900000) : ∃ x, gRepr [d] = some (.d (.str x)) := by
  obtain ⟨p, a1, a2, a3, a4⟩ := pl_text d h
  refine ⟨p.shown, ?_⟩
  unfold gRepr textD
  dsimp only
  rw [a1]
  show Option.map _ (if p.showable = true ∧ p.depth ≤ 60 ∧ p.shown.length ≤ sizeLine then some p.shown else none) = _
  rw [if_pos ⟨a2, by omega, by rw [sizeLine_eq]; omega⟩]
  rfl
end DL

set_option Elab.async false
set_option maxRecDepth 100000
set_option maxHeartbeats 4000000
/-! DW: trees drawn, the law's own look. -/
namespace DL
open PySem PySem.Spec PyProof.Rows L2
local macro_rules | `(tactic| walk_at "dl") => `(tactic| simp (config := {decide := false}) only [seqE_nx, seqE_rt, seqE_bk, seqE_ct, loopE_nx, loopE_rt, loopE_bk, loopE_ct, e_seq, e_next, e_break, e_cont, e_retN, e_var, q_var_d, q_var_o, e_c, con_d, con_o, con_b, conS_d, conS_o, own_l, own_d, own_i, z_d, z_n, z_t, z_w, sl_d, sl_o, frz_d, frz_o, frz_b, q_frz_d, q_frz_o, frzs_nil, frzs_cons, k_fzs, k_fz, thin_d, thin_o, thin_b, k_th, thins_nil, thins_cons, k_ths, k_ts, setR_nil, setR_cons, k_e, e_op, k_op1, k_op2, k_op3, k_op4, e_un, k_un1, k_un2, e_nil, e_cons, k_co1, k_co2, conL_nil, conL_cons, k_cl, k_cl2, e_b, k_b1, k_b2, e_tup, k_tup1, k_tup2, e_lst, k_lst1, k_lst2, e_dct0, k_ret, e_call, k_ca1, k_ca2, k_retR, e_callR, k_cr1, k_cr2, k_cr3, e_tr, k_tr1, k_tr2, k_tr3, e_bl, k_bl, e_and, k_and, e_or, k_or, e_not, k_not, e_if, k_if, e_ifS, k_ifS, e_notV, k_nv1, k_nv2, e_andV, k_av1, k_av2, e_orV, k_ov1, k_ov2, bD_bl, e_sl, k_sl1, k_sl2, k_sl3, k_sl4, e_part, k_pt1, k_pt2, e_noP, e_dget, k_ge1, k_ge1b, k_ge2, k_ge3, k_ge4, dctD_d, keyD_i, keyD_s, e_mut, q_mu0, k_mu1, k_mu2, q_mu3, k_mu4, e_put, k_pu1, k_pu2, k_pu3, k_pu4, q_pu4, k_pu5, e_aug, q_au0, k_au1, k_au2, k_au3, e_asg, k_as1, k_as2, e_par, k_pa1, k_pa2, e_unp, k_up1, k_up2, e_hName, e_hNil, e_hCons, k_hc, e_hTup, e_hWt, e_drop, k_dr, e_ret, k_rt_d, k_rt_o, k_rt_b, q_out_o, q_out_d, forL_nil, forL_cons, k_fo2, e_for, k_fo1, k_wh, e_itS, k_it1, k_it2, k_it3, walk_l, walk_f, walk_t, e_itR1, k_r11, k_r12, e_itR2, k_r21, k_r22, e_itE, k_en1, k_en2, k_en3, list_l, list_f, e_lc, k_lc, k_lcQ, compL_nil, compL_cons, k_c1, k_c2, k_c3, k_c4, e_yes, wip_nil, wip_cons, unw_nil, unw_cons, g_int, f_add, f_sub, f_mul, f_div, f_mod, f_pow, f_lt, f_le, f_gt, f_ge, add_i, add_s, add_l, add_t, mul_i, mul_l, mul_t, neg_i, ix_l, ix_t, sl_l, sl_f, sl_t, len_l, len_f, len_t, len_s, abs_i, int_i, lof_l, lof_f, lof_t, tof_l, tof_f, tof_t, dof_t, app_l, ext_t, ext_l, tru_b, tru_i, tru_l, tru_t, tru_n, augN, subN, is_bl, is_non, ixN4_0, ixN4_1, ixN4_2, ixN4_3, lk_some, lk_ite, lk_map, lk_bind, ixOf, endsF_nx, endsF_dat, endsF_own, atI_0, atI_1, atI_2, atI_3, eqA_l0, eqA_tup0, eqA_int, eqA_non, bne_f, bne_t, sizeLine_eq,
  List.cons_append, List.nil_append, List.getElem?_cons_zero, List.getElem?_cons_succ, List.set_cons_zero, List.set_cons_succ, List.length_cons, List.length_nil, List.replicate, List.take_succ_cons, List.take_zero, List.not_mem_nil, List.mem_cons, List.map_cons, List.map_nil, if_false, if_true, Option.map_some, Option.bind_some, Option.getD_some, Nat.reduceAdd, Nat.reduceSub, Nat.reduceLeDiff, Nat.reduceEqDiff, Nat.succ_ne_zero, Nat.zero_ne_one, Nat.one_ne_zero, List.isEmpty_nil, List.isEmpty_cons, List.length_map, List.isEmpty_map, beq_iff_eq, Bool.not_eq_true, reduceCtorEq, or_false, or_true, false_or, true_or, and_true, true_and, List.cons.injEq, Option.some.injEq, Sl.own.injEq, Own.lst.injEq, exists_eq', not_false_eq_true, forall_const, forall_eq, forall_eq_or_imp, decide_eq_true_eq, Bool.not_true, Bool.not_false, Bool.false_eq_true, ite_self])

/-- tags that a drawn kind may have, with one or two letters more -/
def TagsOk (k : Kind) : Prop := ∀ q ∈ k, 0 ≤ q.2 ∧ q.2 ≤ 4 ∧ q.1 ∈ tagNames
theorem tag_facts {t : Str} (h : t ∈ tagNames) : PyData.strOk t = true ∧ t.length ≤ 8 := by
  have all : (tagNames.all fun t => PyData.strOk t && decide (t.length ≤ 8)) = true := by decide +kernel
  have := List.all_eq_true.mp all t h
  rw [Bool.and_eq_true] at this
  exact ⟨this.1, of_decide_eq_true this.2⟩
mutual
theorem tree_facts {k : Kind} (hk : TagsOk k) : ∀ d : D, isTreeB k d = true → Pl d ∧ TupT d ∧ tl d + 2 ≤ 120 * tagN d ∧ cnt d = 2 * tagN d
  | .tup (.str t :: l), h => by
    unfold isTreeB at h
    rw [Bool.and_eq_true] at h
    have ht : PyData.strOk t = true ∧ t.length ≤ 8 := tag_facts (hk _ (of_decide_eq_true h.1)).2.2
    obtain ⟨h1, h2, h3, h4⟩ := trees_facts hk l h.2
    refine ⟨?_, h2, ?_, ?_⟩
    · unfold Pl Pls
      exact ⟨by unfold Pl; exact ⟨ht.1, by omega⟩, h1⟩
    · show 3 + (10 * t.length + 2 + 2 + tls l) + 2 ≤ 120 * (1 + tagNs l)
      omega
    · show 1 + (1 + cnts l) = 2 * (1 + tagNs l)
      omega
  | .tup [], h => by unfold isTreeB at h; cases h
  | .tup (.non :: _), h => by unfold isTreeB at h; cases h
  | .tup (.bl _ :: _), h => by unfold isTreeB at h; cases h
  | .tup (.int _ :: _), h => by unfold isTreeB at h; cases h
  | .tup (.lst _ :: _), h => by unfold isTreeB at h; cases h
  | .tup (.tup _ :: _), h => by unfold isTreeB at h; cases h
  | .tup (.dct _ :: _), h => by unfold isTreeB at h; cases h
  | .tup (.ins _ _ :: _), h => by unfold isTreeB at h; cases h
  | .tup (.fzl _ :: _), h => by unfold isTreeB at h; cases h
  | .tup (.wt _ :: _), h => by unfold isTreeB at h; cases h
  | .tup (.ty _ :: _), h => by unfold isTreeB at h; cases h
  | .tup (.cls _ :: _), h => by unfold isTreeB at h; cases h
  | .non, h => by unfold isTreeB at h; cases h
  | .bl _, h => by unfold isTreeB at h; cases h
  | .int _, h => by unfold isTreeB at h; cases h
  | .str _, h => by unfold isTreeB at h; cases h
  | .lst _, h => by unfold isTreeB at h; cases h
  | .dct _, h => by unfold isTreeB at h; cases h
  | .ins _ _, h => by unfold isTreeB at h; cases h
  | .fzl _, h => by unfold isTreeB at h; cases h
  | .wt _, h => by unfold isTreeB at h; cases h
  | .ty _, h => by unfold isTreeB at h; cases h
  | .cls _, h => by unfold isTreeB at h; cases h
theorem trees_facts {k : Kind} (hk : TagsOk k) : ∀ l : List D, allTreeB k l = true → Pls l ∧ TupTs l ∧ tls l ≤ 120 * tagNs l ∧ cnts l = 2 * tagNs l
  | [], _ => ⟨by unfold Pls; exact True.intro, True.intro, Nat.le_refl _, rfl⟩
  | d :: l, h => by
    unfold allTreeB at h
    rw [Bool.and_eq_true] at h
    obtain ⟨a1, a2, a3, a4⟩ := tree_facts hk d h.1
    obtain ⟨b1, b2, b3, b4⟩ := trees_facts hk l h.2
    refine ⟨by unfold Pls; exact ⟨a1, b1⟩, ⟨a2, b2⟩, ?_, ?_⟩
    · show tl d + 2 + tls l ≤ 120 * (tagN d + tagNs l)
      omega
    · show cnt d + cnts l = 2 * (tagN d + tagNs l)
      omega
end
theorem tree_shape {k : Kind} {d : D} (h : isTreeB k d = true) : ∃ t l, d = .tup (.str t :: l) ∧ (t, (l.length : Int)) ∈ k ∧ allTreeB k l = true := by
  cases hn : isNodeB k d with
  | false => rw [tree_node hn] at h; cases h
  | true =>
    obtain ⟨t, l, rfl, hin⟩ := node_shape hn
    unfold isTreeB at h
    rw [Bool.and_eq_true] at h
    exact ⟨t, l, rfl, hin, h.2⟩
theorem tree_make {k : Kind} {t : Str} {l : List D} (h : (t, (l.length : Int)) ∈ k) (hl : allTreeB k l = true) : isTreeB k (.tup (.str t :: l)) = true := by
  unfold isTreeB
  rw [decide_eq_true h, hl]; rfl
theorem all_of {k : Kind} : ∀ {l : List D}, (∀ d ∈ l, isTreeB k d = true) → allTreeB k l = true
  | [], _ => by unfold allTreeB; rfl
  | d :: l, h => by
    unfold allTreeB
    rw [h d List.mem_cons_self, all_of fun x hx => h x (List.mem_cons_of_mem _ hx)]; rfl
theorem all_mem {k : Kind} : ∀ {l : List D} {d : D}, allTreeB k l = true → d ∈ l → isTreeB k d = true
  | d' :: l, d, h, hm => by
    unfold allTreeB at h
    rw [Bool.and_eq_true] at h
    rcases List.mem_cons.mp hm with rfl | hm
    · exact h.1
    · exact all_mem h.2 hm
theorem dps_le {n : Nat} : ∀ {l : List D}, (∀ d ∈ l, dp d ≤ n) → dps l ≤ n
  | [], _ => Nat.zero_le _
  | d :: l, h => by
    show max (dp d) (dps l) ≤ n
    have h1 := h d List.mem_cons_self
    have h2 := dps_le fun x hx => h x (List.mem_cons_of_mem d hx)
    omega
theorem dp_mem : ∀ {l : List D} {d : D}, d ∈ l → dp d ≤ dps l
  | d' :: l, d, hm => by
    show dp d ≤ max (dp d') (dps l)
    rcases List.mem_cons.mp hm with rfl | hm
    · omega
    · have := dp_mem hm; omega
theorem tagNs_le {n : Nat} : ∀ {l : List D}, (∀ d ∈ l, tagN d ≤ n) → tagNs l ≤ n * l.length
  | [], _ => Nat.zero_le _
  | d :: l, h => by
    show tagN d + tagNs l ≤ n * (l.length + 1)
    have h1 := h d List.mem_cons_self
    have h2 := tagNs_le fun x hx => h x (List.mem_cons_of_mem d hx)
    rw [Nat.mul_succ]
    omega

/-! ### a drawn tree -/
def rd__law_some_tree (ks : List Nat) (sp__law_some_tree : DSp) (sp__law_pick : DSp) : SD :=
  (wSeq (wAsg ks 3 (wLc ks (wItS ks (wVar 1)) (hName ks 6) (wOr (wBl (wOp (gEqA false) (wOp gIx (wVar 6) (wC (.int 1))) (wC (.int 0)))) (wBl (wOp (gInt fGt) (wVar 2) (wC (.int 0))))) (wVar 6) [6]))
  (wSeq (wUnp ks (wCallR ks sp__law_pick (wCons (wVar 0) (wCons (wVar 3) wNil))) (hTup 2 (hCons (hName ks 4) (hCons (hName ks 5) hNil))))
  (wRet ks (wOp gAdd (wTup ks (wCons (wVar 4) wNil)) (wB gTupOf (wCons (wLc ks (wItR1 (wCons (wVar 5) wNil)) (hName ks 7) wYes (wCallR ks sp__law_some_tree (wCons (wVar 0) (wCons (wVar 1) (wCons (wOp (gInt fSub) (wVar 2) (wC (.int 1))) wNil)))) [7]) wNil))))))
def fuelT : Nat → Nat
  | 0 => 1
  | m + 1 => 1 + 4 * fuelT m
def sp__law_some_tree (m : Nat) : DSp := fun args Q _ => ∃ (n : Nat) (o : Own) (k : Kind) (deep : Nat), args = [.own o, .dat (kindD k), .dat (.int (deep : Nat))] ∧ deep < m ∧ KindOk k ∧ Dk (n + fuelT deep) o ∧
  ∀ (d : D) (o' : Own), isTreeB k d = true → dp d ≤ deep + 1 → tagN d ≤ fuelT deep → Dk n o' → Q (.dat d) [.own o', .dat (kindD k), .dat (.int (deep : Nat))]
theorem st_comp1 {s0 s1 s3 s4 s5 s7 : Sl} {deep : Int} {Q : List D → Rho → Prop} : ∀ (k acc : Kind), acc.length + k.length ≤ 100 → Q ((acc ++ k.filter fun p => decide (p.2 = 0 ∨ 0 < deep)).map pairD) [s0, s1, .dat (.int deep), s3, s4, s5, .no, s7] →
    compL [0] (hName [0] 6) (wOr (wBl (wOp (gEqA false) (wOp gIx (wVar 6) (wC (.int 1))) (wC (.int 0)))) (wBl (wOp (gInt fGt) (wVar 2) (wC (.int 0))))) (wVar 6) [6] (k.map pairD) (acc.map pairD) [s0, s1, .dat (.int deep), s3, s4, s5, .no, s7] Q
  | [], acc, _, q => by
    rw [List.filter_nil, List.append_nil] at q
    exact q
  | p :: k, acc, hl, q => by
    rw [List.length_cons] at hl
    rw [List.map_cons]
    have ep : pairD p = .tup [.str p.1, .int p.2] := rfl
    rw [ep]
    walk_at "dl"
    have e : acc.map pairD ++ [D.tup [.str p.1, .int p.2]] = (acc ++ [p]).map pairD := by rw [List.map_append]; rfl
    have ih := @st_comp1 s0 s1 s3 s4 s5 s7 deep Q k
    by_cases h : p.2 = 0 ∨ 0 < deep
    · have go : Q ((acc ++ [p] ++ k.filter fun p => decide (p.2 = 0 ∨ 0 < deep)).map pairD) [s0, s1, .dat (.int deep), s3, s4, s5, .no, s7] := by
        rw [List.filter_cons_of_pos (by simpa using h)] at q
        rw [List.append_assoc]
        exact q
      have ih' := ih (acc ++ [p]) (by rw [List.length_append, List.length_singleton]; omega) go
      rw [e]
      by_cases h0 : p.2 = 0
      · rw [if_pos h0]
        exact ⟨by omega, ih'⟩
      · rw [if_neg h0, if_pos (by omega)]
        exact ⟨by omega, ih'⟩
    · rw [List.filter_cons_of_neg (by simpa using h)] at q
      rw [if_neg (fun z => h (.inl z)), if_neg (fun z => h (.inr (by omega)))]
      exact ih acc (by omega) q
theorem st_comp2 {m deep n : Nat} {k : Kind} {s3 s4 s5 s6 : Sl} (hk : KindOk k) (hm : deep < m) {Q : List D → Rho → Prop} : ∀ (ds acc : List D) (o : Own), Dk (n + ds.length * fuelT deep) o → acc.length + ds.length ≤ 100 → (∀ d ∈ acc, isTreeB k d = true ∧ dp d ≤ deep + 1 ∧ tagN d ≤ fuelT deep) →
    (∀ (o : Own) (l : List D), Dk n o → l.length = acc.length + ds.length → (∀ d ∈ l, isTreeB k d = true ∧ dp d ≤ deep + 1 ∧ tagN d ≤ fuelT deep) → Q l [.own o, .dat (kindD k), .dat (.int ((deep + 1 : Nat) : Int)), s3, s4, s5, s6, .no]) →
    compL [0] (hName [0] 7) wYes (wCallR [0] (sp__law_some_tree m) (wCons (wVar 0) (wCons (wVar 1) (wCons (wOp (gInt fSub) (wVar 2) (wC (.int 1))) wNil)))) [7] ds acc [.own o, .dat (kindD k), .dat (.int ((deep + 1 : Nat) : Int)), s3, s4, s5, s6, .no] Q
  | [], acc, o, hd, hl, ha, hQ => hQ o acc (by simpa using hd) (by simp) ha
  | d :: ds, acc, o, hd, hl, ha, hQ => by
    rw [List.length_cons] at hl hd
    walk_at "dl"
    have e1 : ((deep + 1 : Nat) : Int) - 1 = ((deep : Nat) : Int) := by omega
    rw [e1]
    have e2 : n + (ds.length + 1) * fuelT deep = n + ds.length * fuelT deep + fuelT deep := by rw [Nat.succ_mul]; omega
    refine ⟨n + ds.length * fuelT deep, o, k, deep, rfl, hm, hk, by rw [← e2]; exact hd, fun x o1 x1 x2 x3 hd1 => ?_⟩
    walk_at "dl"
    refine ⟨by omega, ?_⟩
    refine st_comp2 hk hm ds (acc ++ [x]) o1 hd1 (by rw [List.length_append, List.length_singleton]; omega) (fun y hy => ?_) (fun o2 l h1 h2 h3 => ?_)
    · rcases List.mem_append.mp hy with h | h
      · exact ha y h
      · cases List.mem_singleton.mp h; exact ⟨x1, x2, x3⟩
    · exact hQ o2 l h1 (by rw [h2, List.length_append, List.length_singleton, List.length_cons]; omega) h3
theorem rangeD_len (j : Int) : (rangeD j).length = j.toNat := by unfold rangeD; rw [List.length_map, List.length_range]
theorem filter_mem {k : Kind} {f : Str × Int → Bool} {x : D} (h : x ∈ (k.filter f).map pairD) : ∃ p, p ∈ k ∧ f p = true ∧ x = pairD p := by
  obtain ⟨p, hp, rfl⟩ := List.mem_map.mp h
  exact ⟨p, (List.mem_filter.mp hp).1, (List.mem_filter.mp hp).2, rfl⟩
theorem pl__law_some_tree (m : Nat) : PL 8 3 (fun ks => rd__law_some_tree ks (sp__law_some_tree m) sp__law_pick) (sp__law_some_tree (m + 1)) := fun args QD ED h => by
  obtain ⟨n, o, k, deep, rfl, hm, hk, hd, h⟩ := h
  refine ⟨rfl, ?_⟩
  unfold rd__law_some_tree
  have ek : kindD k = .tup (k.map pairD) := rfl
  rw [ek]
  walk_at "dl"
  refine ⟨fun o e => (by cases e), ?_⟩
  refine st_comp1 k [] (by have := hk.len; simp; omega) ?_
  rw [List.nil_append]
  walk_at "dl"
  obtain ⟨t0, ht0⟩ := hk.leaf
  have hne : (k.filter fun p => decide (p.2 = 0 ∨ 0 < (deep : Int))).map pairD ≠ [] := fun e => by
    have : (t0, (0 : Int)) ∈ k.filter fun p => decide (p.2 = 0 ∨ 0 < (deep : Int)) := List.mem_filter.mpr ⟨ht0, by simp⟩
    rw [List.map_eq_nil_iff.mp e] at this
    cases this
  have hf : fuelT deep = fuelT deep - 1 + 1 := by cases deep <;> unfold fuelT <;> omega
  refine ⟨n + (fuelT deep - 1), o, _, rfl, by rw [Nat.add_assoc, ← hf]; exact hd, hne, ?_, fun x o1 hx hd1 => ?_⟩
  · rw [List.length_map]
    exact Nat.lt_of_le_of_lt (List.length_filter_le _ k) (by have := hk.len; omega)
  obtain ⟨p, hp, hpf, rfl⟩ := filter_mem hx
  have hpf : p.2 = 0 ∨ 0 < (deep : Int) := of_decide_eq_true hpf
  have hr := hk.rng p hp
  have ep : pairD p = .tup [.str p.1, .int p.2] := rfl
  rw [ep]
  walk_at "dl"
  refine ⟨by omega, by omega, fun o e => (by cases e), ?_⟩
  have lr : (rangeD p.2).length = p.2.toNat := rangeD_len _
  -- the end, whatever the parts are
  have fin : ∀ (l : List D) (o2 : Own), l.length = p.2.toNat → Dk n o2 → (∀ d ∈ l, isTreeB k d = true) → dps l ≤ deep → tagNs l + 1 ≤ fuelT deep → QD (.dat (.tup (.str p.1 :: l))) [.own o2, .dat (.tup (k.map pairD)), .dat (.int (deep : Nat))] := fun l o2 h1 h2 h3 h4 h5 => by
    refine h _ o2 (tree_make ?_ (all_of h3)) ?_ ?_ h2
    · rw [h1]
      have : ((p.2.toNat : Nat) : Int) = p.2 := by omega
      rw [this]; exact hp
    · show max 0 (dps l) + 1 ≤ deep + 1
      omega
    · show 1 + tagNs l ≤ fuelT deep
      omega
  cases deep with
  | zero =>
    have hp0 : p.2 = 0 := by rcases hpf with h | h <;> omega
    have er : rangeD p.2 = [] := by rw [hp0]; rfl
    rw [er]
    walk_at "dl"
    exact fin [] o1 (by rw [hp0]; rfl) (hd1.mono (by omega)) (fun d hd => by cases hd) (Nat.zero_le _) (Nat.le_refl _)
  | succ deep =>
    have e3 : fuelT (deep + 1) = 1 + 4 * fuelT deep := rfl
    have hle : p.2.toNat * fuelT deep ≤ 4 * fuelT deep := Nat.mul_le_mul_right _ (by omega)
    refine st_comp2 (n := n) hk (by omega) (rangeD p.2) [] o1 (hd1.mono (by rw [lr, e3]; omega)) (by rw [lr]; simp; omega) (fun d hd => by cases hd) (fun o2 l h1 h2 h3 => ?_)
    walk_at "dl"
    have hl : l.length = p.2.toNat := by rw [h2, lr]; simp
    refine ⟨by omega, ?_⟩
    refine fin l o2 hl h1 (fun d hd => (h3 d hd).1) (dps_le fun d hd => (h3 d hd).2.1) ?_
    have := tagNs_le fun d hd => (h3 d hd).2.2
    rw [hl, Nat.mul_comm] at this
    rw [e3]
    omega

/-! ### the law's own look -/
def rd__law_is_tree (ks : List Nat) (sp__law_is_tree : DSp) : SD :=
  (wSeq (wIfS (wOr (wNot (wTr (wB gIsi (wCons (wVar 1) (wCons (wC (.ty "tuple")) wNil))))) (wOr (wBl (wOp (gEqA false) (wB gLen (wCons (wVar 1) wNil)) (wC (.int 0)))) (wNot (wTr (wB gIsi (wCons (wOp gIx (wVar 1) (wC (.int 0))) (wCons (wC (.ty "str")) wNil))))))) (wRet ks (wC (.bl false))) wNext)
  (wSeq (wIfS (wBl (wOp (gEqA false) (wLc ks (wItS ks (wVar 0)) (hName ks 2) (wBl (wOp (gEqA false) (wVar 2) (wTup ks (wCons (wOp gIx (wVar 1) (wC (.int 0))) (wCons (wOp (gInt fSub) (wB gLen (wCons (wVar 1) wNil)) (wC (.int 1))) wNil))))) (wVar 2) [2]) (wLst ks wNil))) (wRet ks (wC (.bl false))) wNext)
  (wRet ks (wOp (gIn true) (wC (.bl false)) (wLc ks (wItS ks (wSl gSl (wVar 1) (wPart (wC (.int 1))) wNoP)) (hName ks 3) wYes (wCall ks sp__law_is_tree (wCons (wVar 0) (wCons (wVar 3) wNil))) [3])))))
def sp__law_is_tree (m : Nat) : DSp := fun args Q _ => ∃ (k : Kind) (d : D), args = [.dat (kindD k), .dat d] ∧ KindOk k ∧ Pl d ∧ cnt d < 900000 ∧ dp d < m ∧ Q (.dat (.bl (isTreeB k d))) [.dat (kindD k), .dat d]
theorem pyDs_bools : ∀ bs : List Bool, pyDs (bs.map .bl) = some (bs.map .bool)
  | [] => rfl
  | b :: bs => by rw [List.map_cons]; unfold pyDs; rw [pyDs_bools bs]; rfl
theorem can_bools : ∀ bs : List Bool, PyData.canLayAll0 (bs.map .bool) = true
  | [] => rfl
  | b :: bs => by rw [List.map_cons]; unfold PyData.canLayAll0; rw [can_bools bs]; rfl
theorem any_bools : ∀ bs : List Bool, (bs.map PyData.bool).any (fun e => PyData.eqv e (.bool false)) = !bs.all id
  | [] => rfl
  | b :: bs => by
    rw [List.map_cons, List.any_cons, List.all_cons, any_bools bs]
    cases b
    · rfl
    · show (false || _) = !(true && _)
      rw [Bool.false_or, Bool.true_and]
theorem in_bools (bs : List Bool) : gIn true (.bl false) (.lst (bs.map .bl)) = some (.d (.bl (bs.all id))) := by
  unfold gIn inB
  have e0 : seqD (.lst (bs.map .bl)) = some (bs.map .bl) := rfl
  have e1 : pyD (.bl false) = some (.bool false) := rfl
  rw [e0, e1, Option.bind_some, Option.bind_some, pyDs_bools, Option.bind_some, if_pos ⟨rfl, Nat.zero_le _, can_bools bs⟩, any_bools]
  show some (Z.d (.bl (true != !bs.all id))) = _
  cases bs.all id <;> rfl
theorem all_trees (k : Kind) : ∀ l : List D, (l.map (isTreeB k)).all id = allTreeB k l
  | [] => rfl
  | d :: l => by
    rw [List.map_cons, List.all_cons, all_trees k l]
    rfl
theorem lt_comp1 {t : Str} {l : List D} {n : Int} {s0 s3 : Sl} {Q : List D → Rho → Prop} (ht : PyData.strOk t = true) (hn : ((l.length + 1 : Nat) : Int) - 1 = n) : ∀ (ps acc : Kind), acc.length + ps.length ≤ 100 → TagsOk ps → Q ((acc ++ ps.filter fun p => p.1 == t && p.2 == n).map pairD) [s0, .dat (.tup (.str t :: l)), .no, s3] →
    compL [] (hName [] 2) (wBl (wOp (gEqA false) (wVar 2) (wTup [] (wCons (wOp gIx (wVar 1) (wC (.int 0))) (wCons (wOp (gInt fSub) (wB gLen (wCons (wVar 1) wNil)) (wC (.int 1))) wNil))))) (wVar 2) [2] (ps.map pairD) (acc.map pairD) [s0, .dat (.tup (.str t :: l)), .no, s3] Q
  | [], acc, _, _, q => by
    rw [List.filter_nil, List.append_nil] at q
    exact q
  | p :: ps, acc, hl, ho, q => by
    rw [List.length_cons] at hl
    rw [List.map_cons]
    have ep : pairD p = .tup [.str p.1, .int p.2] := rfl
    rw [ep]
    walk_at "dl"
    rw [hn, lk_eq (eqA_eq (eqB_pair (tag_facts (ho p List.mem_cons_self).2.2).1 ht))]
    have e : acc.map pairD ++ [D.tup [.str p.1, .int p.2]] = (acc ++ [p]).map pairD := by rw [List.map_append]; rfl
    have ho' : TagsOk ps := fun q hq => ho q (List.mem_cons_of_mem _ hq)
    cases hc : (p.1 == t && p.2 == n) with
    | true =>
      walk_at "dl"
      refine ⟨by omega, ?_⟩
      rw [e]
      refine lt_comp1 ht hn ps (acc ++ [p]) (by rw [List.length_append, List.length_singleton]; omega) ho' ?_
      rw [List.filter_cons, if_pos hc] at q
      rw [List.append_assoc]
      exact q
    | false =>
      walk_at "dl"
      refine lt_comp1 ht hn ps acc (by omega) ho' ?_
      rw [List.filter_cons, if_neg (by rw [hc]; exact Bool.false_ne_true)] at q
      exact q
theorem lt_comp2 {m : Nat} {k : Kind} {s1 s2 : Sl} {Q : List D → Rho → Prop} (hk : KindOk k) : ∀ (ds : List D) (acc : List Bool), acc.length + ds.length < 900000 → (∀ d ∈ ds, Pl d ∧ cnt d < 900000 ∧ dp d < m) → Q ((acc ++ ds.map (isTreeB k)).map .bl) [.dat (kindD k), s1, s2, .no] →
    compL [] (hName [] 3) wYes (wCall [] (sp__law_is_tree m) (wCons (wVar 0) (wCons (wVar 3) wNil))) [3] ds (acc.map .bl) [.dat (kindD k), s1, s2, .no] Q
  | [], acc, _, _, q => by
    rw [List.map_nil, List.append_nil] at q
    exact q
  | d :: ds, acc, hl, hd, q => by
    rw [List.length_cons] at hl
    walk_at "dl"
    obtain ⟨h1, h2, h3⟩ := hd d List.mem_cons_self
    refine ⟨k, d, rfl, hk, h1, h2, h3, ?_⟩
    walk_at "dl"
    refine ⟨by omega, ?_⟩
    have e : acc.map D.bl ++ [D.bl (isTreeB k d)] = (acc ++ [isTreeB k d]).map D.bl := by rw [List.map_append]; rfl
    rw [e]
    refine lt_comp2 hk ds _ (by rw [List.length_append, List.length_singleton]; omega) (fun x hx => hd x (List.mem_cons_of_mem _ hx)) ?_
    rw [List.append_assoc]
    exact q
theorem cnt_mem : ∀ {l : List D} {d : D}, d ∈ l → cnt d ≤ cnts l
  | d' :: l, d, hm => by
    show cnt d ≤ cnt d' + cnts l
    rcases List.mem_cons.mp hm with rfl | hm
    · omega
    · have := cnt_mem hm; omega
theorem pl__law_is_tree (m : Nat) : PL 4 2 (fun ks => rd__law_is_tree ks (sp__law_is_tree m)) (sp__law_is_tree (m + 1)) := fun args QD ED h => by
  obtain ⟨k, d, rfl, hk, hp, hc, hm, h⟩ := h
  refine ⟨rfl, ?_⟩
  unfold rd__law_is_tree
  have ek : kindD k = .tup (k.map pairD) := rfl
  rw [ek]
  walk_at "dl"
  rw [lk_eq (isi_tup hp)]
  walk_at "dl"
  cases d with
  | tup l =>
    rw [if_neg (by simp [isTup])]
    cases l with
    | nil =>
      walk_at "dl"
      rw [if_pos (by decide)]
      exact h
    | cons x l =>
      have hx : Pl x := by unfold Pl Pls at hp; exact hp.1
      have hps : Pls l := by unfold Pl Pls at hp; exact hp.2
      walk_at "dl"
      rw [if_neg (by omega), lk_eq (isi_str hx)]
      cases x with
      | str t =>
        have e : isStr (.str t) = true := rfl
        have hst : PyData.strOk t = true ∧ t.length ≤ 100 := by unfold Pl at hx; exact hx
        rw [e]
        walk_at "dl"
        refine ⟨fun o e => (by cases e), ?_⟩
        refine lt_comp1 hst.1 (n := (l.length : Int)) (by omega) k [] (by have := hk.len; simp; omega) hk.rng ?_
        rw [List.nil_append]
        walk_at "dl"
        have hc2 : cnt (.tup (.str t :: l)) = 2 + cnts l := by show 1 + (1 + cnts l) = _; omega
        have hlen := cnts_len l
        cases he : (k.filter fun p => p.1 == t && p.2 == (l.length : Int)).isEmpty with
        | true =>
          walk_at "dl"
          have hn : isTreeB k (.tup (.str t :: l)) = false := by
            refine tree_node ?_
            show decide _ = false
            refine decide_eq_false fun z => ?_
            have : (t, (l.length : Int)) ∈ k.filter fun p => p.1 == t && p.2 == (l.length : Int) := List.mem_filter.mpr ⟨z, by simp⟩
            rw [List.isEmpty_iff.mp he] at this
            cases this
          rw [hn] at h
          exact h
        | false =>
          walk_at "dl"
          refine ⟨fun o e => (by cases e), ?_⟩
          have e1 : cutD (D.str t :: l) (some 1) none = l := cutD_from 1
          rw [e1]
          refine lt_comp2 hk l [] (by simp; omega) (fun d hd => ⟨Pls_mem hps hd, by have := cnt_mem hd; omega, ?_⟩) ?_
          · have h1 : dp (.tup (.str t :: l)) = max 0 (dps l) + 1 := rfl
            have := dp_mem hd
            omega
          · rw [List.nil_append]
            walk_at "dl"
            rw [lk_eq (in_bools _), all_trees]
            walk_at "dl"
            have hin : (t, (l.length : Int)) ∈ k := by
              cases hf : k.filter fun p => p.1 == t && p.2 == (l.length : Int) with
              | nil => rw [hf] at he; cases he
              | cons q r =>
                have : q ∈ k.filter fun p => p.1 == t && p.2 == (l.length : Int) := by rw [hf]; exact List.mem_cons_self
                obtain ⟨h1, h2⟩ := List.mem_filter.mp this
                rw [Bool.and_eq_true] at h2
                have e1 : q.1 = t := by simpa using h2.1
                have e2 : q.2 = (l.length : Int) := by simpa using h2.2
                rw [← e1, ← e2]; exact h1
            have ht : isTreeB k (.tup (.str t :: l)) = allTreeB k l := by
              conv => lhs; unfold isTreeB
              rw [decide_eq_true hin, Bool.true_and]
            rw [ht] at h
            exact h
      | _ =>
        simp only [isStr]
        walk_at "dl"
        exact h
  | _ =>
    rw [if_pos (by simp [isTup])]
    exact h
end DL

set_option Elab.async false
set_option maxRecDepth 100000
set_option maxHeartbeats 4000000
/-! DX: tags counted, leaning trees, bent trees. -/
namespace DL
open PySem PySem.Spec PyProof.Rows L2
local macro_rules | `(tactic| walk_at "dl") => `(tactic| simp (config := {decide := false}) only [seqE_nx, seqE_rt, seqE_bk, seqE_ct, loopE_nx, loopE_rt, loopE_bk, loopE_ct, e_seq, e_next, e_break, e_cont, e_retN, e_var, q_var_d, q_var_o, e_c, con_d, con_o, con_b, conS_d, conS_o, own_l, own_d, own_i, z_d, z_n, z_t, z_w, sl_d, sl_o, frz_d, frz_o, frz_b, q_frz_d, q_frz_o, frzs_nil, frzs_cons, k_fzs, k_fz, thin_d, thin_o, thin_b, k_th, thins_nil, thins_cons, k_ths, k_ts, setR_nil, setR_cons, k_e, e_op, k_op1, k_op2, k_op3, k_op4, e_un, k_un1, k_un2, e_nil, e_cons, k_co1, k_co2, conL_nil, conL_cons, k_cl, k_cl2, e_b, k_b1, k_b2, e_tup, k_tup1, k_tup2, e_lst, k_lst1, k_lst2, e_dct0, k_ret, e_call, k_ca1, k_ca2, k_retR, e_callR, k_cr1, k_cr2, k_cr3, e_tr, k_tr1, k_tr2, k_tr3, e_bl, k_bl, e_and, k_and, e_or, k_or, e_not, k_not, e_if, k_if, e_ifS, k_ifS, e_notV, k_nv1, k_nv2, e_andV, k_av1, k_av2, e_orV, k_ov1, k_ov2, bD_bl, e_sl, k_sl1, k_sl2, k_sl3, k_sl4, e_part, k_pt1, k_pt2, e_noP, e_dget, k_ge1, k_ge1b, k_ge2, k_ge3, k_ge4, dctD_d, keyD_i, keyD_s, e_mut, q_mu0, k_mu1, k_mu2, q_mu3, k_mu4, e_put, k_pu1, k_pu2, k_pu3, k_pu4, q_pu4, k_pu5, e_aug, q_au0, k_au1, k_au2, k_au3, e_asg, k_as1, k_as2, e_par, k_pa1, k_pa2, e_unp, k_up1, k_up2, e_hName, e_hNil, e_hCons, k_hc, e_hTup, e_hWt, e_drop, k_dr, e_ret, k_rt_d, k_rt_o, k_rt_b, q_out_o, q_out_d, forL_nil, forL_cons, k_fo2, e_for, k_fo1, k_wh, e_itS, k_it1, k_it2, k_it3, walk_l, walk_f, walk_t, e_itR1, k_r11, k_r12, e_itR2, k_r21, k_r22, e_itE, k_en1, k_en2, k_en3, list_l, list_f, e_lc, k_lc, k_lcQ, compL_nil, compL_cons, k_c1, k_c2, k_c3, k_c4, e_yes, wip_nil, wip_cons, unw_nil, unw_cons, g_int, f_add, f_sub, f_mul, f_div, f_mod, f_pow, f_lt, f_le, f_gt, f_ge, add_i, add_s, add_l, add_t, mul_i, mul_l, mul_t, neg_i, ix_l, ix_t, sl_l, sl_f, sl_t, len_l, len_f, len_t, len_s, abs_i, int_i, lof_l, lof_f, lof_t, tof_l, tof_f, tof_t, dof_t, app_l, ext_t, ext_l, tru_b, tru_i, tru_l, tru_t, tru_n, augN, subN, is_bl, is_non, ixN4_0, ixN4_1, ixN4_2, ixN4_3, lk_some, lk_ite, lk_map, lk_bind, ixOf, endsF_nx, endsF_dat, endsF_own, atI_0, atI_1, atI_2, atI_3, eqA_l0, eqA_tup0, eqA_int, eqA_non, bne_f, bne_t, sizeLine_eq,
  List.cons_append, List.nil_append, List.getElem?_cons_zero, List.getElem?_cons_succ, List.set_cons_zero, List.set_cons_succ, List.length_cons, List.length_nil, List.replicate, List.take_succ_cons, List.take_zero, List.not_mem_nil, List.mem_cons, List.map_cons, List.map_nil, if_false, if_true, Option.map_some, Option.bind_some, Option.getD_some, Nat.reduceAdd, Nat.reduceSub, Nat.reduceLeDiff, Nat.reduceEqDiff, Nat.succ_ne_zero, Nat.zero_ne_one, Nat.one_ne_zero, List.isEmpty_nil, List.isEmpty_cons, List.length_map, List.isEmpty_map, beq_iff_eq, Bool.not_eq_true, reduceCtorEq, or_false, or_true, false_or, true_or, and_true, true_and, List.cons.injEq, Option.some.injEq, Sl.own.injEq, Own.lst.injEq, exists_eq', not_false_eq_true, forall_const, forall_eq, forall_eq_or_imp, decide_eq_true_eq, Bool.not_true, Bool.not_false, Bool.false_eq_true, ite_self])

/-! ### tags counted -/
def rd__law_tags_of (ks : List Nat) : SD :=
  (wSeq (wPar ks [1, 2] (wCons (wC (.int 0)) (wCons (wLst ks (wCons (wVar 0) wNil)) wNil)))
  (wSeq (wWhile (wBl (wOp (gEqA true) (wVar 2) (wLst ks wNil))) (wSeq (wAsg ks 3 (wMut ks 2 gPop wNil))
  (wSeq (wAsg ks 1 (wOp gAdd (wVar 1) (wC (.int 1))))
  (wDrop (wMut ks 2 gExtend (wCons (wB gListOf (wCons (wSl gSl (wVar 3) (wPart (wC (.int 1))) wNoP) wNil)) wNil))))))
  (wRet ks (wVar 1))))
def sp__law_tags_of : DSp := fun args Q _ => ∃ (d : D), args = [.dat d] ∧ TupT d ∧ tagN d < 900000 ∧ Q (.dat (.int (tagN d : Nat))) [.dat d]
abbrev toBody (ks : List Nat) : SD := (wSeq (wAsg ks 3 (wMut ks 2 gPop wNil))
  (wSeq (wAsg ks 1 (wOp gAdd (wVar 1) (wC (.int 1))))
  (wDrop (wMut ks 2 gExtend (wCons (wB gListOf (wCons (wSl gSl (wVar 3) (wPart (wC (.int 1))) wNoP) wNil)) wNil)))))
theorem to_loop {thing : D} {DD : EndsD} (N : Nat) (hN : ∀ (s2 s3 : Sl), DD.nx [.dat thing, .dat (.int (N : Nat)), s2, s3]) : ∀ (m : Nat) (w : List D) (c : Nat) (s3 : Sl), tagNs w ≤ m → tagNs w < 900000 → c + tagNs w = N → TupTs w →
    whileN (wBl (wOp (gEqA true) (wVar 2) (wLst [] wNil))) (toBody []) DD (m + 1) [.dat thing, .dat (.int (c : Nat)), .own (.lst w), s3] := by
  intro m
  induction m with
  | zero =>
    intro w c s3 hm hz hc hp
    cases w with
    | nil =>
      rw [whileN_succ]
      walk_at "dl"
      have : c = N := by have : tagNs [] = 0 := rfl; omega
      rw [this]
      exact hN _ s3
    | cons d w =>
      exfalso
      have : tagNs (d :: w) = tagN d + tagNs w := rfl
      have := tagN_pos d
      omega
  | succ m ih =>
    intro w c s3 hm hz hc hp
    rcases List.eq_nil_or_concat w with rfl | ⟨w, d, rfl⟩
    · rw [whileN_succ]
      walk_at "dl"
      have : c = N := by have : tagNs [] = 0 := rfl; omega
      rw [this]
      exact hN _ s3
    · rw [List.concat_eq_append] at *
      have hd : TupT d := TupTs_mem hp (List.mem_append_right _ List.mem_cons_self)
      have hw : TupTs w := TupTs_of fun x hx => TupTs_mem hp (List.mem_append_left _ hx)
      have ht : tagNs (w ++ [d]) = tagNs w + tagN d := by rw [tagNs_app]; show _ + (tagN d + 0) = _; omega
      have he : (w ++ [d]).isEmpty = false := by cases w <;> rfl
      obtain ⟨x, l, rfl, hl⟩ := tupT_shape hd
      rw [whileN_succ]
      walk_at "dl"
      rw [he]
      walk_at "dl"
      rw [lk_eq pop_ok]
      walk_at "dl"
      have e1 : cutD (x :: l) (some 1) none = l := cutD_from 1
      rw [e1]
      have e2 : tagN (.tup (x :: l)) = 1 + tagNs l := rfl
      have hlen := tagNs_len (w ++ l)
      rw [tagNs_app] at hlen
      refine ⟨by rw [List.length_append] at hlen; omega, ?_⟩
      have e3 : ((c : Nat) : Int) + 1 = ((c + 1 : Nat) : Int) := by omega
      rw [e3]
      exact ih (w ++ l) (c + 1) _ (by rw [tagNs_app]; omega) (by rw [tagNs_app]; omega) (by rw [tagNs_app]; omega) (TupTs_of fun y hy => (List.mem_append.mp hy).elim (TupTs_mem hw) (TupTs_mem hl))
theorem pl__law_tags_of : PL 4 1 rd__law_tags_of sp__law_tags_of := fun args QD ED h => by
  obtain ⟨d, rfl, ht, hz, h⟩ := h
  refine ⟨rfl, ?_⟩
  unfold rd__law_tags_of
  walk_at "dl"
  refine ⟨tagN d + 1, ?_⟩
  have e0 : tagNs [d] = tagN d := by show tagN d + 0 = _; omega
  refine to_loop (tagN d) (fun s2 s3 => ?_) (tagN d) [d] 0 .no (by omega) (by omega) (by omega) ⟨ht, True.intro⟩
  walk_at "dl"
  exact h

/-! ### leaning trees -/
def rd__law_leaning (ks : List Nat) (sp__law_pick : DSp) (sp__law_below : DSp) : SD :=
  (wSeq (wAsg ks 5 (wLc ks (wItS ks (wVar 1)) (hTup 2 (hCons (hName ks 3) (hCons (hName ks 4) hNil))) (wBl (wOp (gEqA false) (wVar 4) (wC (.int 0)))) (wTup ks (wCons (wVar 3) wNil)) [3, 4]))
  (wSeq (wAsg ks 6 (wCallR ks sp__law_pick (wCons (wVar 0) (wCons (wVar 5) wNil))))
  (wSeq (wFor (wItR1 (wCons (wVar 2) wNil)) (hName ks 7) (wSeq (wUnp ks (wCallR ks sp__law_pick (wCons (wVar 0) (wCons (wLc ks (wItS ks (wVar 1)) (hName ks 9) (wBl (wOp (gInt fGt) (wOp gIx (wVar 9) (wC (.int 1))) (wC (.int 0)))) (wVar 9) [9]) wNil))) (hTup 2 (hCons (hName ks 3) (hCons (hName ks 4) hNil))))
  (wSeq (wAsg ks 8 (wCallR ks sp__law_below (wCons (wVar 0) (wCons (wVar 4) wNil))))
  (wAsg ks 6 (wOp gAdd (wOp gAdd (wOp gAdd (wTup ks (wCons (wVar 3) wNil)) (wOp gMul (wTup ks (wCons (wCallR ks sp__law_pick (wCons (wVar 0) (wCons (wVar 5) wNil))) wNil)) (wVar 8))) (wTup ks (wCons (wVar 6) wNil))) (wOp gMul (wTup ks (wCons (wOp gIx (wVar 5) (wC (.int 0))) wNil)) (wOp (gInt fSub) (wOp (gInt fSub) (wVar 4) (wC (.int 1))) (wVar 8))))))))
  (wRet ks (wVar 6)))))
abbrev leBody (ks : List Nat) (sp__law_pick : DSp) (sp__law_below : DSp) : SD := (wSeq (wUnp ks (wCallR ks sp__law_pick (wCons (wVar 0) (wCons (wLc ks (wItS ks (wVar 1)) (hName ks 9) (wBl (wOp (gInt fGt) (wOp gIx (wVar 9) (wC (.int 1))) (wC (.int 0)))) (wVar 9) [9]) wNil))) (hTup 2 (hCons (hName ks 3) (hCons (hName ks 4) hNil))))
  (wSeq (wAsg ks 8 (wCallR ks sp__law_below (wCons (wVar 0) (wCons (wVar 4) wNil))))
  (wAsg ks 6 (wOp gAdd (wOp gAdd (wOp gAdd (wTup ks (wCons (wVar 3) wNil)) (wOp gMul (wTup ks (wCons (wCallR ks sp__law_pick (wCons (wVar 0) (wCons (wVar 5) wNil))) wNil)) (wVar 8))) (wTup ks (wCons (wVar 6) wNil))) (wOp gMul (wTup ks (wCons (wOp gIx (wVar 5) (wC (.int 0))) wNil)) (wOp (gInt fSub) (wOp (gInt fSub) (wVar 4) (wC (.int 1))) (wVar 8)))))))
def leafP (p : Str × Int) : D := .tup [.str p.1]
def leafD (k : Kind) : List D := (k.filter fun p => p.2 == 0).map leafP
theorem leaf_tree {k : Kind} {x : D} (h : x ∈ leafD k) : ∃ t, x = .tup [.str t] ∧ (t, (0 : Int)) ∈ k := by
  obtain ⟨p, hp, rfl⟩ := List.mem_map.mp h
  obtain ⟨h1, h2⟩ := List.mem_filter.mp hp
  have e : p.2 = 0 := by simpa using h2
  exact ⟨p.1, rfl, by rw [← e]; exact h1⟩
theorem leaf_ok {k : Kind} {x : D} (h : x ∈ leafD k) : isTreeB k x = true ∧ tagN x = 1 ∧ dp x = 1 := by
  obtain ⟨t, rfl, ht⟩ := leaf_tree h
  exact ⟨tree_make ht (by unfold allTreeB; rfl), rfl, rfl⟩
theorem leaf_ne {k : Kind} (hk : KindOk k) : leafD k ≠ [] := fun e => by
  obtain ⟨t, ht⟩ := hk.leaf
  have : (t, (0 : Int)) ∈ k.filter fun p => p.2 == 0 := List.mem_filter.mpr ⟨ht, by simp⟩
  rw [List.map_eq_nil_iff.mp e] at this
  cases this
theorem leaf_len {k : Kind} (hk : KindOk k) : (leafD k).length ≤ 8 := by
  unfold leafD
  rw [List.length_map]
  exact Nat.le_trans (List.length_filter_le _ k) hk.len
theorem le_comp1 {s0 s1 s2 s5 s6 s7 s8 s9 : Sl} {Q : List D → Rho → Prop} : ∀ (k acc : Kind), acc.length + k.length ≤ 100 → Q ((acc ++ k.filter fun p => p.2 == 0).map leafP) [s0, s1, s2, .no, .no, s5, s6, s7, s8, s9] →
    compL [0] (hTup 2 (hCons (hName [0] 3) (hCons (hName [0] 4) hNil))) (wBl (wOp (gEqA false) (wVar 4) (wC (.int 0)))) (wTup [0] (wCons (wVar 3) wNil)) [3, 4] (k.map pairD) (acc.map leafP) [s0, s1, s2, .no, .no, s5, s6, s7, s8, s9] Q
  | [], acc, _, q => by
    rw [List.filter_nil, List.append_nil] at q
    exact q
  | p :: k, acc, hl, q => by
    rw [List.length_cons] at hl
    rw [List.map_cons]
    have ep : pairD p = .tup [.str p.1, .int p.2] := rfl
    rw [ep]
    walk_at "dl"
    have e : acc.map leafP ++ [D.tup [.str p.1]] = (acc ++ [p]).map leafP := by rw [List.map_append]; rfl
    rw [List.filter_cons] at q
    by_cases h : p.2 = 0
    · rw [if_pos (by simpa using h)] at q
      rw [if_pos h, e]
      refine ⟨by omega, le_comp1 k (acc ++ [p]) (by rw [List.length_append, List.length_singleton]; omega) ?_⟩
      rw [List.append_assoc]
      exact q
    · rw [if_neg (by simpa using h)] at q
      rw [if_neg h]
      exact le_comp1 k acc (by omega) q
theorem le_comp2 {s0 s1 s2 s3 s4 s5 s6 s7 s8 : Sl} {Q : List D → Rho → Prop} : ∀ (k acc : Kind), acc.length + k.length ≤ 100 → Q ((acc ++ k.filter fun p => decide (0 < p.2)).map pairD) [s0, s1, s2, s3, s4, s5, s6, s7, s8, .no] →
    compL [0] (hName [0] 9) (wBl (wOp (gInt fGt) (wOp gIx (wVar 9) (wC (.int 1))) (wC (.int 0)))) (wVar 9) [9] (k.map pairD) (acc.map pairD) [s0, s1, s2, s3, s4, s5, s6, s7, s8, .no] Q
  | [], acc, _, q => by
    rw [List.filter_nil, List.append_nil] at q
    exact q
  | p :: k, acc, hl, q => by
    rw [List.length_cons] at hl
    rw [List.map_cons]
    have ep : pairD p = .tup [.str p.1, .int p.2] := rfl
    rw [ep]
    walk_at "dl"
    have e : acc.map pairD ++ [D.tup [.str p.1, .int p.2]] = (acc ++ [p]).map pairD := by rw [List.map_append]; rfl
    rw [List.filter_cons] at q
    by_cases h : 0 < p.2
    · rw [if_pos (by simpa using h)] at q
      rw [if_pos h, e]
      refine ⟨by omega, le_comp2 k (acc ++ [p]) (by rw [List.length_append, List.length_singleton]; omega) ?_⟩
      rw [List.append_assoc]
      exact q
    · rw [if_neg (by simpa using h)] at q
      rw [if_neg h]
      exact le_comp2 k acc (by omega) q
def sp__law_leaning : DSp := fun args Q _ => ∃ (n : Nat) (o : Own) (k : Kind) (levels : Nat), args = [.own o, .dat (kindD k), .dat (.int (levels : Nat))] ∧ levels ≤ 390 ∧ KindOk k ∧ Dk (n + (3 * levels + 1)) o ∧
  ∀ (d : D) (o' : Own), isTreeB k d = true → tagN d ≤ 4 * levels + 1 → Dk n o' → Q (.dat d) [.own o', .dat (kindD k), .dat (.int (levels : Nat))]
theorem flat_one {α : Type} {x : α} : ∀ n : Nat, (List.replicate n [x]).flatten = List.replicate n x
  | 0 => rfl
  | n + 1 => by rw [List.replicate_succ, List.flatten_cons, flat_one n, List.replicate_succ]; rfl
theorem tagNs_rep (x : D) : ∀ n : Nat, tagNs (List.replicate n x) = n * tagN x
  | 0 => by rw [Nat.zero_mul]; rfl
  | n + 1 => by
    rw [List.replicate_succ]
    show tagN x + tagNs (List.replicate n x) = _
    rw [tagNs_rep x n, Nat.succ_mul]
    omega
theorem le_loop {k : Kind} {levels : Sl} {n : Nat} (hk : KindOk k) {DD : EndsD} (N : Nat) (hD : ∀ (o : Own) (d : D) (s3 s4 s7 s8 : Sl), Dk n o → isTreeB k d = true → tagN d ≤ N → DD.nx [.own o, .dat (.tup (k.map pairD)), levels, s3, s4, .dat (.lst (leafD k)), .dat d, s7, s8, .no]) :
    ∀ (ds : List D) (o : Own) (d : D) (s3 s4 s7 s8 : Sl), Dk (n + 3 * ds.length) o → isTreeB k d = true → tagN d + 4 * ds.length ≤ N → (∀ (i : Nat) (x : Own), [s3, s4, s7, s8][i]? ≠ some (.own x)) →
    forL (hName [0] 7) (leBody [0] sp__law_pick sp__law_below) DD ds [.own o, .dat (.tup (k.map pairD)), levels, s3, s4, .dat (.lst (leafD k)), .dat d, s7, s8, .no]
  | [], o, d, s3, s4, s7, s8, hd, ht, hN, _ => hD o d s3 s4 s7 s8 (by simpa using hd) ht (by simpa using hN)
  | e :: ds, o, d, s3, s4, s7, s8, hd, ht, hN, hs => by
    rw [List.length_cons] at hd hN
    walk_at "dl"
    refine ⟨fun o e => (by cases e), ?_⟩
    refine le_comp2 k [] (by have := hk.len; simp; omega) ?_
    rw [List.nil_append]
    walk_at "dl"
    have hne : (k.filter fun p => decide (0 < p.2)).map pairD ≠ [] := fun e => by
      obtain ⟨t, p, h1, h2⟩ := hk.node
      have : (t, p) ∈ k.filter fun p => decide (0 < p.2) := List.mem_filter.mpr ⟨h1, by simpa using h2⟩
      rw [List.map_eq_nil_iff.mp e] at this
      cases this
    refine ⟨n + (3 * ds.length + 2), o, _, rfl, hd.mono (by omega), hne, ?_, fun x o1 hx hd1 => ?_⟩
    · rw [List.length_map]
      exact Nat.lt_of_le_of_lt (List.length_filter_le _ k) (by have := hk.len; omega)
    obtain ⟨p, hp, hpf, rfl⟩ := filter_mem hx
    have hp0 : 0 < p.2 := of_decide_eq_true hpf
    have hr := hk.rng p hp
    have ep : pairD p = .tup [.str p.1, .int p.2] := rfl
    rw [ep]
    walk_at "dl"
    refine ⟨n + (3 * ds.length + 1), o1, _, rfl, hd1.mono (by omega), hp0, by omega, fun r o2 r0 r1 hd2 => ?_⟩
    walk_at "dl"
    refine ⟨n + 3 * ds.length, o2, _, rfl, hd2.mono (by omega), leaf_ne hk, by have := leaf_len hk; omega, fun y o3 hy hd3 => ?_⟩
    walk_at "dl"
    obtain ⟨y0, hy0, ey0, _⟩ := atI_mem (l := leafD k) (i := 0) (Int.le_refl 0) (by have := List.length_pos_iff.mpr (leaf_ne hk); omega)
    rw [lk_eq ey0]
    rw [flat_one, flat_one]
    have yo := leaf_ok hy
    have yo0 := leaf_ok hy0
    have l1 : (List.replicate r.toNat y).length = r.toNat := List.length_replicate
    have l2 : (List.replicate (p.2 - 1 - r).toNat y0).length = (p.2 - 1 - r).toNat := List.length_replicate
    have len : (List.replicate r.toNat y ++ [d] ++ List.replicate (p.2 - 1 - r).toNat y0).length = p.2.toNat := by
      rw [List.length_append, List.length_append, l1, l2, List.length_singleton]
      omega
    have tg : tagNs (List.replicate r.toNat y ++ [d] ++ List.replicate (p.2 - 1 - r).toNat y0) = r.toNat + tagN d + (p.2 - 1 - r).toNat := by
      rw [tagNs_app, tagNs_app, tagNs_rep, tagNs_rep, yo.2.1, yo0.2.1]
      show _ + (tagN d + 0) + _ = _
      omega
    refine ⟨⟨by omega, by omega⟩, by rw [l1]; omega, by rw [l1]; omega, ⟨by omega, by omega⟩, by rw [List.length_append, l1, l2, List.length_singleton]; omega, ?_⟩
    refine le_loop hk N hD ds o3 _ _ _ _ _ hd3 (tree_make ?_ (all_of fun z hz => ?_)) ?_ (fun i x => ?_)
    · rw [len]
      have : ((p.2.toNat : Nat) : Int) = p.2 := by omega
      rw [this]; exact hp
    · rcases List.mem_append.mp hz with h | h
      · rcases List.mem_append.mp h with h | h
        · rw [List.eq_of_mem_replicate h]; exact yo.1
        · rw [List.mem_singleton.mp h]; exact ht
      · rw [List.eq_of_mem_replicate h]; exact yo0.1
    · show 1 + tagNs _ + 4 * ds.length ≤ N
      rw [tg]
      omega
    · match i with
      | 0 => intro e; cases e
      | 1 => intro e; cases e
      | 2 => intro e; cases e
      | 3 => intro e; cases e
      | n + 4 => intro e; cases e
theorem pl__law_leaning : PL 10 3 (fun ks => rd__law_leaning ks sp__law_pick sp__law_below) sp__law_leaning := fun args QD ED h => by
  obtain ⟨n, o, k, levels, rfl, hl, hk, hd, h⟩ := h
  refine ⟨rfl, ?_⟩
  unfold rd__law_leaning
  have ek : kindD k = .tup (k.map pairD) := rfl
  rw [ek]
  walk_at "dl"
  refine ⟨⟨fun o e => (by cases e), fun o e => (by cases e)⟩, ?_⟩
  refine le_comp1 k [] (by have := hk.len; simp; omega) ?_
  rw [List.nil_append]
  walk_at "dl"
  refine ⟨n + 3 * levels, o, _, rfl, hd.mono (by omega), leaf_ne hk, by have := leaf_len hk; unfold leafD at this; omega, fun x o1 hx hd1 => ?_⟩
  walk_at "dl"
  refine ⟨by omega, by omega, ?_⟩
  have lr : (rangeD (levels : Int)).length = levels := by rw [rangeD_len]; omega
  have xo := leaf_ok hx
  refine le_loop hk (4 * levels + 1) (fun o2 d s3 s4 s7 s8 h1 h2 h3 => ?_) (rangeD (levels : Int)) o1 x .no .no .no .no (by rw [lr]; exact hd1) xo.1 (by rw [lr, xo.2.1]; omega) (fun i x => ?_)
  · walk_at "dl"
    exact h d o2 h2 h3 h1
  · match i with
    | 0 => intro e; cases e
    | 1 => intro e; cases e
    | 2 => intro e; cases e
    | 3 => intro e; cases e
    | n + 4 => intro e; cases e
end DL

set_option Elab.async false
set_option maxRecDepth 100000
set_option maxHeartbeats 4000000
/-! DY: bent trees. -/
namespace DL
open PySem PySem.Spec PyProof.Rows L2
local macro_rules | `(tactic| walk_at "dl") => `(tactic| simp (config := {decide := false}) only [seqE_nx, seqE_rt, seqE_bk, seqE_ct, loopE_nx, loopE_rt, loopE_bk, loopE_ct, e_seq, e_next, e_break, e_cont, e_retN, e_var, q_var_d, q_var_o, e_c, con_d, con_o, con_b, conS_d, conS_o, own_l, own_d, own_i, z_d, z_n, z_t, z_w, sl_d, sl_o, frz_d, frz_o, frz_b, q_frz_d, q_frz_o, frzs_nil, frzs_cons, k_fzs, k_fz, thin_d, thin_o, thin_b, k_th, thins_nil, thins_cons, k_ths, k_ts, setR_nil, setR_cons, k_e, e_op, k_op1, k_op2, k_op3, k_op4, e_un, k_un1, k_un2, e_nil, e_cons, k_co1, k_co2, conL_nil, conL_cons, k_cl, k_cl2, e_b, k_b1, k_b2, e_tup, k_tup1, k_tup2, e_lst, k_lst1, k_lst2, e_dct0, k_ret, e_call, k_ca1, k_ca2, k_retR, e_callR, k_cr1, k_cr2, k_cr3, e_tr, k_tr1, k_tr2, k_tr3, e_bl, k_bl, e_and, k_and, e_or, k_or, e_not, k_not, e_if, k_if, e_ifS, k_ifS, e_notV, k_nv1, k_nv2, e_andV, k_av1, k_av2, e_orV, k_ov1, k_ov2, bD_bl, e_sl, k_sl1, k_sl2, k_sl3, k_sl4, e_part, k_pt1, k_pt2, e_noP, e_dget, k_ge1, k_ge1b, k_ge2, k_ge3, k_ge4, dctD_d, keyD_i, keyD_s, e_mut, q_mu0, k_mu1, k_mu2, q_mu3, k_mu4, e_put, k_pu1, k_pu2, k_pu3, k_pu4, q_pu4, k_pu5, e_aug, q_au0, k_au1, k_au2, k_au3, e_asg, k_as1, k_as2, e_par, k_pa1, k_pa2, e_unp, k_up1, k_up2, e_hName, e_hNil, e_hCons, k_hc, e_hTup, e_hWt, e_drop, k_dr, e_ret, k_rt_d, k_rt_o, k_rt_b, q_out_o, q_out_d, forL_nil, forL_cons, k_fo2, e_for, k_fo1, k_wh, e_itS, k_it1, k_it2, k_it3, walk_l, walk_f, walk_t, e_itR1, k_r11, k_r12, e_itR2, k_r21, k_r22, e_itE, k_en1, k_en2, k_en3, list_l, list_f, e_lc, k_lc, k_lcQ, compL_nil, compL_cons, k_c1, k_c2, k_c3, k_c4, e_yes, wip_nil, wip_cons, unw_nil, unw_cons, g_int, f_add, f_sub, f_mul, f_div, f_mod, f_pow, f_lt, f_le, f_gt, f_ge, add_i, add_s, add_l, add_t, mul_i, mul_l, mul_t, neg_i, ix_l, ix_t, sl_l, sl_f, sl_t, len_l, len_f, len_t, len_s, abs_i, int_i, lof_l, lof_f, lof_t, tof_l, tof_f, tof_t, dof_t, app_l, ext_t, ext_l, tru_b, tru_i, tru_l, tru_t, tru_n, augN, subN, is_bl, is_non, ixN4_0, ixN4_1, ixN4_2, ixN4_3, lk_some, lk_ite, lk_map, lk_bind, ixOf, endsF_nx, endsF_dat, endsF_own, atI_0, atI_1, atI_2, atI_3, eqA_l0, eqA_tup0, eqA_int, eqA_non, bne_f, bne_t, sizeLine_eq,
  List.cons_append, List.nil_append, List.getElem?_cons_zero, List.getElem?_cons_succ, List.set_cons_zero, List.set_cons_succ, List.length_cons, List.length_nil, List.replicate, List.take_succ_cons, List.take_zero, List.not_mem_nil, List.mem_cons, List.map_cons, List.map_nil, if_false, if_true, Option.map_some, Option.bind_some, Option.getD_some, Nat.reduceAdd, Nat.reduceSub, Nat.reduceLeDiff, Nat.reduceEqDiff, Nat.succ_ne_zero, Nat.zero_ne_one, Nat.one_ne_zero, List.isEmpty_nil, List.isEmpty_cons, List.length_map, List.isEmpty_map, beq_iff_eq, Bool.not_eq_true, reduceCtorEq, or_false, or_true, false_or, true_or, and_true, true_and, List.cons.injEq, Option.some.injEq, Sl.own.injEq, Own.lst.injEq, exists_eq', not_false_eq_true, forall_const, forall_eq, forall_eq_or_imp, decide_eq_true_eq, Bool.not_true, Bool.not_false, Bool.false_eq_true, ite_self])

def beTail (ks : List Nat) (sp__law_pick : DSp) : SD :=
  (wSeq (wPar ks [4, 5] (wCons (wOp gIx (wVar 2) (wC (.int 0))) (wCons (wSl gSl (wVar 2) (wPart (wC (.int 1))) wNoP) wNil)))
  (wSeq (wAsg ks 6 (wOp gIx (wLc ks (wItS ks (wVar 1)) (hName ks 8) (wBl (wOp (gEqA false) (wOp gIx (wVar 8) (wC (.int 1))) (wC (.int 0)))) (wTup ks (wCons (wOp gIx (wVar 8) (wC (.int 0))) wNil)) [8]) (wC (.int 0))))
  (wSeq (wAsg ks 7 (wLst ks (wCons (wOp gAdd (wTup ks (wCons (wOp gAdd (wVar 4) (wC (.str "a"))) wNil)) (wVar 5)) (wCons (wOp gAdd (wTup ks (wCons (wVar 4) wNil)) (wSl gSl (wVar 5) (wPart (wC (.int 1))) wNoP)) (wCons (wOp gAdd (wVar 2) (wTup ks (wCons (wVar 6) wNil))) (wCons (wOp gAdd (wLst ks (wCons (wVar 4) wNil)) (wB gListOf (wCons (wVar 5) wNil))) (wCons (wVar 4) (wCons (wTup ks wNil) (wCons (wC .non) (wCons (wC (.bl true)) (wCons (wC (.int 0)) wNil)))))))))))
  (wSeq (wDrop (wMut ks 7 gAppend (wCons (wTup ks (wCons (wVar 4) (wCons (wVar 6) wNil))) wNil)))
  (wSeq (wAsg ks 7 (wOp gAdd (wVar 7) (wLst ks (wCons (wTup ks (wCons (wVar 5) (wCons (wVar 4) wNil))) (wCons (wTup ks (wCons (wVar 4) (wCons (wVar 4) wNil))) (wCons (wTup ks (wCons (wVar 4) (wCons (wC .non) wNil))) (wCons (wOp gAdd (wTup ks (wCons (wTup ks (wCons (wVar 4) wNil)) wNil)) (wVar 5)) (wCons (wOp gAdd (wTup ks (wCons (wC (.int 1)) wNil)) (wVar 5)) (wCons (wTup ks (wCons (wC .non) wNil)) (wCons (wTup ks (wCons (wC (.str "")) wNil)) (wCons (wLst ks (wCons (wVar 2) wNil)) (wCons wDct0 wNil))))))))))))
  (wSeq (wAsg ks 7 (wOp gAdd (wVar 7) (wLst ks (wCons (wOp gAdd (wTup ks (wCons (wLst ks (wCons (wVar 4) wNil)) wNil)) (wVar 5)) (wCons (wOp gAdd (wTup ks (wCons wDct0 wNil)) (wVar 5)) wNil)))))
  (wRet ks (wCallR ks sp__law_pick (wCons (wVar 0) (wCons (wOp gAdd (wVar 7) (wLst ks (wCons (wOp gAdd (wTup ks (wCons (wCallR ks sp__law_pick (wCons (wVar 0) (wCons (wLc ks (wItS ks (wVar 1)) (hName ks 8) wYes (wOp gIx (wVar 8) (wC (.int 0))) [8]) wNil))) wNil)) (wVar 5)) wNil))) wNil))))))))))
def rd__law_bent (ks : List Nat) (sp__law_pick : DSp) (sp__law_below : DSp) (sp__law_bent : DSp) : SD :=
  (wSeq (wIfS (wAnd (wBl (wOp (gInt fGt) (wB gLen (wCons (wVar 2) wNil)) (wC (.int 1)))) (wBl (wOp (gInt fGt) (wCallR ks sp__law_below (wCons (wVar 0) (wCons (wC (.int 3)) wNil))) (wC (.int 0))))) (wSeq (wAsg ks 3 (wOp gAdd (wC (.int 1)) (wCallR ks sp__law_below (wCons (wVar 0) (wCons (wOp (gInt fSub) (wB gLen (wCons (wVar 2) wNil)) (wC (.int 1))) wNil)))))
  (wRet ks (wOp gAdd (wOp gAdd (wSl gSl (wVar 2) wNoP (wPart (wVar 3))) (wTup ks (wCons (wCallR ks sp__law_bent (wCons (wVar 0) (wCons (wVar 1) (wCons (wOp gIx (wVar 2) (wVar 3)) wNil)))) wNil))) (wSl gSl (wVar 2) (wPart (wOp gAdd (wVar 3) (wC (.int 1)))) wNoP)))) wNext)
  (beTail ks sp__law_pick))
theorem tls_app : ∀ (a b : List D), tls (a ++ b) = tls a + tls b
  | [], b => by rw [List.nil_append]; show _ = 0 + _; omega
  | d :: a, b => by rw [List.cons_append]; show tl d + 2 + tls (a ++ b) = tl d + 2 + tls a + tls b; rw [tls_app a b]; omega
theorem dps_app : ∀ (a b : List D), dps (a ++ b) = max (dps a) (dps b)
  | [], b => by rw [List.nil_append]; show _ = max 0 _; omega
  | d :: a, b => by rw [List.cons_append]; show max (dp d) (dps (a ++ b)) = max (max (dp d) (dps a)) (dps b); rw [dps_app a b]; omega
/-- what bending may give -/
structure Bent (d x : D) : Prop where
  pl : Pl x
  dp : dp x ≤ dp d + 2
  tl : tl x ≤ 2 * tl d + 400
  cnt : cnt x ≤ 2 * cnt d + 20
def sp__law_bent (m : Nat) : DSp := fun args Q _ => ∃ (n : Nat) (o : Own) (k : Kind) (d : D), args = [.own o, .dat (kindD k), .dat d] ∧ KindOk k ∧ isTreeB k d = true ∧ dp d < m ∧ tagN d < 10000 ∧ Dk (n + (2 * m + 5)) o ∧
  ∀ (x : D) (o' : Own), Bent d x → Dk n o' → Q (.dat x) [.own o', .dat (kindD k), .dat d]
theorem be_comp1 {s0 s1 s2 s3 s4 s5 s6 s7 : Sl} {Q : List D → Rho → Prop} : ∀ (k acc : Kind), acc.length + k.length ≤ 100 → Q ((acc ++ k.filter fun p => p.2 == 0).map leafP) [s0, s1, s2, s3, s4, s5, s6, s7, .no] →
    compL [0] (hName [0] 8) (wBl (wOp (gEqA false) (wOp gIx (wVar 8) (wC (.int 1))) (wC (.int 0)))) (wTup [0] (wCons (wOp gIx (wVar 8) (wC (.int 0))) wNil)) [8] (k.map pairD) (acc.map leafP) [s0, s1, s2, s3, s4, s5, s6, s7, .no] Q
  | [], acc, _, q => by
    rw [List.filter_nil, List.append_nil] at q
    exact q
  | p :: k, acc, hl, q => by
    rw [List.length_cons] at hl
    rw [List.map_cons]
    have ep : pairD p = .tup [.str p.1, .int p.2] := rfl
    rw [ep]
    walk_at "dl"
    have e : acc.map leafP ++ [D.tup [.str p.1]] = (acc ++ [p]).map leafP := by rw [List.map_append]; rfl
    rw [List.filter_cons] at q
    by_cases h : p.2 = 0
    · rw [if_pos (by simpa using h)] at q
      rw [if_pos h, e]
      refine ⟨by omega, be_comp1 k (acc ++ [p]) (by rw [List.length_append, List.length_singleton]; omega) ?_⟩
      rw [List.append_assoc]
      exact q
    · rw [if_neg (by simpa using h)] at q
      rw [if_neg h]
      exact be_comp1 k acc (by omega) q
def tagP (p : Str × Int) : D := .str p.1
theorem be_comp2 {s0 s1 s2 s3 s4 s5 s6 s7 : Sl} {Q : List D → Rho → Prop} : ∀ (k acc : Kind), acc.length + k.length ≤ 100 → Q ((acc ++ k).map tagP) [s0, s1, s2, s3, s4, s5, s6, s7, .no] →
    compL [0] (hName [0] 8) wYes (wOp gIx (wVar 8) (wC (.int 0))) [8] (k.map pairD) (acc.map tagP) [s0, s1, s2, s3, s4, s5, s6, s7, .no] Q
  | [], acc, _, q => by
    rw [List.append_nil] at q
    exact q
  | p :: k, acc, hl, q => by
    rw [List.length_cons] at hl
    rw [List.map_cons]
    have ep : pairD p = .tup [.str p.1, .int p.2] := rfl
    rw [ep]
    walk_at "dl"
    have e : acc.map tagP ++ [D.str p.1] = (acc ++ [p]).map tagP := by rw [List.map_append]; rfl
    refine ⟨by omega, ?_⟩
    rw [e]
    refine be_comp2 k (acc ++ [p]) (by rw [List.length_append, List.length_singleton]; omega) ?_
    rw [List.append_assoc]
    exact q
theorem pls_cons {d : D} {l : List D} : Pls (d :: l) = (Pl d ∧ Pls l) := by rw [Pls]
theorem pls_nil : Pls [] = True := by rw [Pls]
theorem pl_tup {l : List D} : Pl (.tup l) = Pls l := by rw [Pl]
theorem pl_lst {l : List D} : Pl (.lst l) = Pls l := by rw [Pl]
theorem pl_str {x : Str} : Pl (.str x) = (PyData.strOk x = true ∧ x.length ≤ 100) := by rw [Pl]
theorem pl_int {i : Int} : Pl (.int i) = (0 ≤ i ∧ i ≤ 9) := by rw [Pl]
theorem pl_non : Pl .non = True := by rw [Pl]
theorem pl_bl {c : Bool} : Pl (.bl c) = True := by rw [Pl]
theorem pl_dct : Pl (.dct []) = True := by rw [Pl]
theorem tl_tup {l : List D} : tl (.tup l) = 3 + tls l := rfl
theorem tl_lst {l : List D} : tl (.lst l) = 3 + tls l := rfl
theorem tl_str {x : Str} : tl (.str x) = 10 * x.length + 2 := rfl
theorem tl_int {i : Int} : tl (.int i) = 5 := rfl
theorem tl_non : tl .non = 5 := rfl
theorem tl_bl {c : Bool} : tl (.bl c) = 5 := rfl
theorem tl_dct : tl (.dct []) = 5 := rfl
theorem tls_nil : tls [] = 0 := rfl
theorem tls_cons {d : D} {l : List D} : tls (d :: l) = tl d + 2 + tls l := rfl
theorem dp_tup {l : List D} : dp (.tup l) = dps l + 1 := rfl
theorem dp_lst {l : List D} : dp (.lst l) = dps l + 1 := rfl
theorem dp_str {x : Str} : dp (.str x) = 0 := rfl
theorem dp_int {i : Int} : dp (.int i) = 0 := rfl
theorem dp_non : dp .non = 0 := rfl
theorem dp_bl {c : Bool} : dp (.bl c) = 0 := rfl
theorem dp_dct : dp (.dct []) = 1 := rfl
theorem dps_nil : dps [] = 0 := rfl
theorem dps_cons {d : D} {l : List D} : dps (d :: l) = max (dp d) (dps l) := rfl
theorem cnt_tup {l : List D} : cnt (.tup l) = 1 + cnts l := rfl
theorem cnt_lst {l : List D} : cnt (.lst l) = 1 + cnts l := rfl
theorem cnt_str {x : Str} : cnt (.str x) = 1 := rfl
theorem cnt_int {i : Int} : cnt (.int i) = 1 := rfl
theorem cnt_non : cnt .non = 1 := rfl
theorem cnt_bl {c : Bool} : cnt (.bl c) = 1 := rfl
theorem cnt_dct : cnt (.dct []) = 1 := rfl
theorem cnts_nil : cnts [] = 0 := rfl
theorem cnts_cons {d : D} {l : List D} : cnts (d :: l) = cnt d + cnts l := rfl
theorem tl_drop : ∀ (l : List D) (n : Nat), tls (l.drop n) ≤ tls l ∧ dps (l.drop n) ≤ dps l ∧ cnts (l.drop n) ≤ cnts l
  | l, 0 => ⟨Nat.le_refl _, Nat.le_refl _, Nat.le_refl _⟩
  | [], n + 1 => ⟨Nat.le_refl _, Nat.le_refl _, Nat.le_refl _⟩
  | d :: l, n + 1 => by
    obtain ⟨h1, h2, h3⟩ := tl_drop l n
    rw [List.drop_succ_cons]
    refine ⟨?_, ?_, ?_⟩
    · show _ ≤ tl d + 2 + tls l; omega
    · show _ ≤ max (dp d) (dps l); omega
    · show _ ≤ cnt d + cnts l; omega
theorem Pls_drop {l : List D} (h : Pls l) (n : Nat) : Pls (l.drop n) := Pls_of fun _ hd => Pls_mem h (List.mem_of_mem_drop hd)
theorem tag_a {t : Str} (h : t ∈ tagNames) : PyData.strOk (t ++ Str.ofString "a") = true ∧ (t ++ Str.ofString "a").length ≤ 9 ∧ t.length + (Str.ofString "a").length ≤ 16777216 := by
  have all : (tagNames.all fun t => PyData.strOk (t ++ Str.ofString "a") && decide ((t ++ Str.ofString "a").length ≤ 9) && decide (t.length + (Str.ofString "a").length ≤ 100)) = true := by decide +kernel
  have := List.all_eq_true.mp all t h
  rw [Bool.and_eq_true, Bool.and_eq_true] at this
  exact ⟨this.1.1, of_decide_eq_true this.1.2, by have := of_decide_eq_true this.2; omega⟩
theorem be_tail {k : Kind} {t : Str} {l : List D} {n : Nat} {o : Own} {s3 : Sl} {QD : R → List Sl → Prop} (hk : KindOk k) (ht : isTreeB k (.tup (.str t :: l)) = true) (hz : tagN (.tup (.str t :: l)) < 10000) (hd : Dk (n + 2) o)
    (h : ∀ (x : D) (o' : Own), Bent (.tup (.str t :: l)) x → Dk n o' → QD (.dat x) [.own o', .dat (kindD k), .dat (.tup (.str t :: l))]) :
    beTail [0] sp__law_pick (endsF 3 QD) [.own o, .dat (.tup (k.map pairD)), .dat (.tup (.str t :: l)), s3, .no, .no, .no, .no, .no] := by
  have ht' := ht
  unfold isTreeB at ht'
  rw [Bool.and_eq_true] at ht'
  have hin : (t, (l.length : Int)) ∈ k := of_decide_eq_true ht'.1
  have hl := ht'.2
  have hok : t ∈ tagNames := (hk.rng _ hin).2.2
  have htf : PyData.strOk t = true ∧ t.length ≤ 8 := tag_facts hok
  obtain ⟨ta1, ta2, ta3⟩ := tag_a hok
  obtain ⟨p1, p2, p3, p4⟩ := trees_facts hk.rng l hl
  have hlen := tagNs_len l
  have etag : tagN (.tup (.str t :: l)) = 1 + tagNs l := rfl
  unfold beTail
  walk_at "dl"
  refine ⟨fun o e => (by cases e), ?_⟩
  refine be_comp1 k [] (by have := hk.len; simp; omega) ?_
  rw [List.nil_append]
  walk_at "dl"
  obtain ⟨lf, hlf, elf, _⟩ := atI_mem (l := leafD k) (i := 0) (Int.le_refl 0) (by have := List.length_pos_iff.mpr (leaf_ne hk); omega)
  have elf' : atI ((k.filter fun p => p.2 == 0).map leafP) 0 = some lf := elf
  rw [lk_eq elf']
  obtain ⟨u, rfl, hu⟩ := leaf_tree hlf
  have huf : PyData.strOk u = true ∧ u.length ≤ 8 := tag_facts (hk.rng _ hu).2.2
  have e1 : cutD (D.str t :: l) (some 1) none = l := cutD_from 1
  have e2 : cutD l (some 1) none = l.drop 1 := cutD_from 1
  rw [e1, e2]
  have hld : (l.drop 1).length ≤ l.length := by rw [List.length_drop]; omega
  refine ⟨ta3, by omega, by omega, by omega, by omega, by omega, by omega, by omega, by omega, by omega, fun o e => (by cases e), ?_⟩
  refine be_comp2 k [] (by have := hk.len; simp; omega) ?_
  rw [List.nil_append]
  walk_at "dl"
  refine ⟨n + 1, o, _, rfl, hd, fun e => ?_, by rw [List.length_map]; have := hk.len; omega, fun y o1 hy hd1 => ?_⟩
  · rw [List.map_eq_nil_iff.mp e] at hin; cases hin
  obtain ⟨v, hv, rfl⟩ := List.mem_map.mp hy
  have hvf : PyData.strOk v.1 = true ∧ v.1.length ≤ 8 := tag_facts (hk.rng _ hv).2.2
  unfold tagP
  walk_at "dl"
  refine ⟨by omega, ?_⟩
  refine ⟨n, o1, _, rfl, hd1, by simp, by simp only [List.length_cons, List.length_nil]; decide, fun x o2 hx hd2 => ?_⟩
  walk_at "dl"
  refine h x o2 ?_ hd2
  obtain ⟨d1, d2, d3⟩ := tl_drop l 1
  have pd := Pls_drop p1 1
  have pdl : Pls (l ++ [D.tup [D.str u]]) := Pls_app p1 (by simp only [pls_cons, pls_nil, pl_tup, pl_str]; exact ⟨⟨⟨huf.1, by omega⟩, True.intro⟩, True.intro⟩)
  have a1 := tls_app l [D.tup [D.str u]]
  have a2 := dps_app l [D.tup [D.str u]]
  have a3 := cnts_app l [D.tup [D.str u]]
  simp only [tls_cons, tls_nil, tl_tup, tl_str] at a1
  simp only [dps_cons, dps_nil, dp_tup, dp_str] at a2
  simp only [cnts_cons, cnts_nil, cnt_tup, cnt_str] at a3
  have e0 : (Str.ofString "").length = 0 := by decide
  have ok0 : PyData.strOk (Str.ofString "") = true := by decide +kernel
  have n1 : t.length ≤ 100 := by omega
  have n2 : (t ++ Str.ofString "a").length ≤ 100 := by omega
  have n3 : u.length ≤ 100 := by omega
  have n4 : v.1.length ≤ 100 := by omega
  simp only [List.mem_cons, List.not_mem_nil, or_false] at hx
  rcases hx with rfl | rfl | rfl | rfl | rfl | rfl | rfl | rfl | rfl | rfl | rfl | rfl | rfl | rfl | rfl | rfl | rfl | rfl | rfl | rfl | rfl | rfl
  all_goals
    refine ⟨?_, ?_, ?_, ?_⟩
    · simp only [pls_cons, pls_nil, pl_tup, pl_lst, pl_str, pl_int, pl_non, pl_bl, pl_dct, and_true, true_and] <;>
      first | exact True.intro | (simp only [p1, pd, pdl, htf.1, huf.1, hvf.1, ta1, ok0, e0, n1, n2, n3, n4, true_and, and_true]; done) | decide | (simp only [p1, pd, pdl, htf.1, huf.1, hvf.1, ta1, ok0, e0, n1, n2, n3, n4, true_and, and_true]; decide)
    · simp only [dp_tup, dp_lst, dp_str, dp_int, dp_non, dp_bl, dp_dct, dps_nil, dps_cons, a2]
      omega
    · simp only [tl_tup, tl_lst, tl_str, tl_int, tl_non, tl_bl, tl_dct, tls_nil, tls_cons, a1, e0]
      omega
    · simp only [cnt_tup, cnt_lst, cnt_str, cnt_int, cnt_non, cnt_bl, cnt_dct, cnts_nil, cnts_cons, a3]
      omega
theorem pl__law_bent (m : Nat) : PL 9 3 (fun ks => rd__law_bent ks sp__law_pick sp__law_below (sp__law_bent m)) (sp__law_bent (m + 1)) := fun args QD ED h => by
  obtain ⟨n, o, k, d, rfl, hk, ht, hm, hz, hd, h⟩ := h
  refine ⟨rfl, ?_⟩
  unfold rd__law_bent
  have ek : kindD k = .tup (k.map pairD) := rfl
  rw [ek]
  obtain ⟨t, l, rfl, hin, hl⟩ := tree_shape ht
  walk_at "dl"
  by_cases hl0 : l = []
  · rw [if_neg (by rw [hl0]; decide)]
    exact be_tail hk ht hz (hd.mono (by omega)) h
  · have l0 : 0 < l.length := List.length_pos_iff.mpr hl0
    rw [if_pos (by omega)]
    refine ⟨n + (2 * (m + 1) + 4), o, _, rfl, hd, by decide, by decide, fun r o1 r0 r1 hd1 => ?_⟩
    walk_at "dl"
    by_cases hr : 0 < r
    · rw [if_pos hr]
      refine ⟨n + (2 * (m + 1) + 3), o1, _, rfl, hd1.mono (by omega), by omega, by have := tagNs_len l; have e : tagN (.tup (.str t :: l)) = 1 + tagNs l := rfl; omega, fun q o2 q0 q1 hd2 => ?_⟩
      walk_at "dl"
      have ql : q.toNat < l.length := by omega
      have ec : l[q.toNat]? = some l[q.toNat] := List.getElem?_eq_getElem ql
      have e1 : atI (D.str t :: l) (1 + q) = some l[q.toNat] := by
        rw [atI_nat (j := q.toNat + 1) (by omega)]
        exact ec
      rw [lk_eq e1]
      have hc : l[q.toNat] ∈ l := List.getElem_mem ql
      have hct := all_mem hl hc
      have hdc : dp l[q.toNat] ≤ dps l := dp_mem hc
      have hdt : dp (.tup (.str t :: l)) = max 0 (dps l) + 1 := rfl
      have htg : tagNs l = tagNs (l.take q.toNat) + (tagN l[q.toNat] + tagNs (l.drop (q.toNat + 1))) := by
        conv => lhs; rw [← List.take_append_drop q.toNat l, List.drop_eq_getElem_cons ql]
        rw [tagNs_app]
        rfl
      have etag : tagN (.tup (.str t :: l)) = 1 + tagNs l := rfl
      refine ⟨n, o2, k, l[q.toNat], rfl, hk, hct, by omega, by omega, hd2.mono (by omega), fun x o3 hb hd3 => ?_⟩
      have e2 : cutD (D.str t :: l) none (some (1 + q)) = .str t :: l.take q.toNat := by
        have : (1 + q) = ((q.toNat + 1 : Nat) : Int) := by omega
        rw [this, cutD_to]
        rfl
      have e3 : cutD (D.str t :: l) (some (1 + q + 1)) none = l.drop (q.toNat + 1) := by
        have : (1 + q + 1) = ((q.toNat + 2 : Nat) : Int) := by omega
        rw [this, cutD_from]
        rfl
      rw [e2]
      walk_at "dl"
      rw [e3]
      have hlen := tagNs_len l
      have htl : tls l = tls (l.take q.toNat) + (tl l[q.toNat] + 2 + tls (l.drop (q.toNat + 1))) := by
        conv => lhs; rw [← List.take_append_drop q.toNat l, List.drop_eq_getElem_cons ql]
        rw [tls_app]
        rfl
      have hdl : dps l = max (dps (l.take q.toNat)) (max (dp l[q.toNat]) (dps (l.drop (q.toNat + 1)))) := by
        conv => lhs; rw [← List.take_append_drop q.toNat l, List.drop_eq_getElem_cons ql]
        rw [dps_app]
        rfl
      have hcl : cnts l = cnts (l.take q.toNat) + (cnt l[q.toNat] + cnts (l.drop (q.toNat + 1))) := by
        conv => lhs; rw [← List.take_append_drop q.toNat l, List.drop_eq_getElem_cons ql]
        rw [cnts_app]
        rfl
      obtain ⟨b1, b2, b3, b4⟩ := hb
      have hpl := (tree_facts hk.rng _ ht).1
      rw [pl_tup, pls_cons] at hpl
      refine ⟨by rw [List.length_take]; omega, by rw [List.length_append, List.length_take, List.length_singleton, List.length_drop]; omega, ?_⟩
      refine h _ o3 ⟨?_, ?_, ?_, ?_⟩ hd3
      · rw [pl_tup, pls_cons]
        refine ⟨hpl.1, Pls_of fun z hz => ?_⟩
        rcases List.mem_append.mp hz with h | h
        · rcases List.mem_append.mp h with h | h
          · exact Pls_mem hpl.2 (List.mem_of_mem_take h)
          · rw [List.mem_singleton.mp h]; exact b1
        · exact Pls_mem hpl.2 (List.mem_of_mem_drop h)
      · simp only [dp_tup, dps_cons, dps_app, dps_nil, dp_str]
        omega
      · simp only [tl_tup, tls_cons, tls_app, tls_nil, tl_str]
        omega
      · simp only [cnt_tup, cnts_cons, cnts_app, cnts_nil, cnt_str]
        omega
    · rw [if_neg hr]
      exact be_tail hk ht hz (hd1.mono (by omega)) h
end DL

set_option Elab.async false
set_option maxRecDepth 100000
set_option maxHeartbeats 4000000
/-! L30: the law. -/
namespace DL
open PySem PySem.Spec PyProof.Rows L2
local macro_rules | `(tactic| walk_at "dl") => `(tactic| simp (config := {decide := false}) only [seqE_nx, seqE_rt, seqE_bk, seqE_ct, loopE_nx, loopE_rt, loopE_bk, loopE_ct, e_seq, e_next, e_break, e_cont, e_retN, e_var, q_var_d, q_var_o, e_c, con_d, con_o, con_b, conS_d, conS_o, own_l, own_d, own_i, z_d, z_n, z_t, z_w, sl_d, sl_o, frz_d, frz_o, frz_b, q_frz_d, q_frz_o, frzs_nil, frzs_cons, k_fzs, k_fz, thin_d, thin_o, thin_b, k_th, thins_nil, thins_cons, k_ths, k_ts, setR_nil, setR_cons, k_e, e_op, k_op1, k_op2, k_op3, k_op4, e_un, k_un1, k_un2, e_nil, e_cons, k_co1, k_co2, conL_nil, conL_cons, k_cl, k_cl2, e_b, k_b1, k_b2, e_tup, k_tup1, k_tup2, e_lst, k_lst1, k_lst2, e_dct0, k_ret, e_call, k_ca1, k_ca2, k_retR, e_callR, k_cr1, k_cr2, k_cr3, e_tr, k_tr1, k_tr2, k_tr3, e_bl, k_bl, e_and, k_and, e_or, k_or, e_not, k_not, e_if, k_if, e_ifS, k_ifS, e_notV, k_nv1, k_nv2, e_andV, k_av1, k_av2, e_orV, k_ov1, k_ov2, bD_bl, e_sl, k_sl1, k_sl2, k_sl3, k_sl4, e_part, k_pt1, k_pt2, e_noP, e_dget, k_ge1, k_ge1b, k_ge2, k_ge3, k_ge4, dctD_d, keyD_i, keyD_s, e_mut, q_mu0, k_mu1, k_mu2, q_mu3, k_mu4, e_put, k_pu1, k_pu2, k_pu3, k_pu4, q_pu4, k_pu5, e_aug, q_au0, k_au1, k_au2, k_au3, e_asg, k_as1, k_as2, e_par, k_pa1, k_pa2, e_unp, k_up1, k_up2, e_hName, e_hNil, e_hCons, k_hc, e_hTup, e_hWt, e_drop, k_dr, e_ret, k_rt_d, k_rt_o, k_rt_b, q_out_o, q_out_d, forL_nil, forL_cons, k_fo2, e_for, k_fo1, k_wh, e_itS, k_it1, k_it2, k_it3, walk_l, walk_f, walk_t, e_itR1, k_r11, k_r12, e_itR2, k_r21, k_r22, e_itE, k_en1, k_en2, k_en3, list_l, list_f, e_lc, k_lc, k_lcQ, compL_nil, compL_cons, k_c1, k_c2, k_c3, k_c4, e_yes, wip_nil, wip_cons, unw_nil, unw_cons, g_int, f_add, f_sub, f_mul, f_div, f_mod, f_pow, f_lt, f_le, f_gt, f_ge, add_i, add_s, add_l, add_t, mul_i, mul_l, mul_t, neg_i, ix_l, ix_t, sl_l, sl_f, sl_t, len_l, len_f, len_t, len_s, abs_i, int_i, lof_l, lof_f, lof_t, tof_l, tof_f, tof_t, dof_t, app_l, ext_t, ext_l, tru_b, tru_i, tru_l, tru_t, tru_n, augN, subN, is_bl, is_non, ixN4_0, ixN4_1, ixN4_2, ixN4_3, lk_some, lk_ite, lk_map, lk_bind, ixOf, endsF_nx, endsF_dat, endsF_own, atI_0, atI_1, atI_2, atI_3, eqA_l0, eqA_tup0, eqA_int, eqA_non, bne_f, bne_t, sizeLine_eq,
  List.cons_append, List.nil_append, List.getElem?_cons_zero, List.getElem?_cons_succ, List.set_cons_zero, List.set_cons_succ, List.length_cons, List.length_nil, List.replicate, List.take_succ_cons, List.take_zero, List.not_mem_nil, List.mem_cons, List.map_cons, List.map_nil, if_false, if_true, Option.map_some, Option.bind_some, Option.getD_some, Nat.reduceAdd, Nat.reduceSub, Nat.reduceLeDiff, Nat.reduceEqDiff, Nat.succ_ne_zero, Nat.zero_ne_one, Nat.one_ne_zero, List.isEmpty_nil, List.isEmpty_cons, List.length_map, List.isEmpty_map, beq_iff_eq, Bool.not_eq_true, reduceCtorEq, or_false, or_true, false_or, true_or, and_true, true_and, List.cons.injEq, Option.some.injEq, Sl.own.injEq, Own.lst.injEq, exists_eq', not_false_eq_true, forall_const, forall_eq, forall_eq_or_imp, decide_eq_true_eq, Bool.not_true, Bool.not_false, Bool.false_eq_true, ite_self])
local macro_rules | `(tactic| walk_at "dlf") => `(tactic| simp (config := {decide := false}) only [seqE_nx, seqE_rt, seqE_bk, seqE_ct, loopE_nx, loopE_rt, loopE_bk, loopE_ct, e_seq, e_next, e_break, e_cont, e_retN, e_var, q_var_d, q_var_o, e_c, con_d, con_o, con_b, conS_d, conS_o, own_l, own_d, own_i, z_d, z_n, z_t, z_w, sl_d, sl_o, frz_d, frz_o, frz_b, q_frz_d, q_frz_o, frzs_nil, frzs_cons, k_fzs, k_fz, thin_d, thin_o, thin_b, k_th, thins_nil, thins_cons, k_ths, k_ts, setR_nil, setR_cons, k_e, e_op, k_op1, k_op2, k_op3, k_op4, e_un, k_un1, k_un2, e_nil, e_cons, k_co1, k_co2, conL_nil, conL_cons, k_cl, k_cl2, e_b, k_b1, k_b2, e_tup, k_tup1, k_tup2, e_lst, k_lst1, k_lst2, e_dct0, k_ret, e_call, k_ca1, k_ca2, k_retR, e_callR, k_cr1, k_cr2, k_cr3, e_tr, k_tr1, k_tr2, k_tr3, e_bl, k_bl, e_and, k_and, e_or, k_or, e_not, k_not, e_if, k_if, e_ifS, k_ifS, e_notV, k_nv1, k_nv2, e_andV, k_av1, k_av2, e_orV, k_ov1, k_ov2, bD_bl, e_sl, k_sl1, k_sl2, k_sl3, k_sl4, e_part, k_pt1, k_pt2, e_noP, e_dget, k_ge1, k_ge1b, k_ge2, k_ge3, k_ge4, dctD_d, keyD_i, keyD_s, e_mut, q_mu0, k_mu1, k_mu2, q_mu3, k_mu4, e_put, k_pu1, k_pu2, k_pu3, k_pu4, q_pu4, k_pu5, e_aug, q_au0, k_au1, k_au2, k_au3, e_asg, k_as1, k_as2, e_par, k_pa1, k_pa2, e_unp, k_up1, k_up2, e_hName, e_hNil, e_hCons, k_hc, e_hTup, e_hWt, e_drop, k_dr, e_ret, k_rt_d, k_rt_o, k_rt_b, q_out_o, q_out_d, forL_nil, k_fo2, e_for, k_fo1, k_wh, e_itS, k_it1, k_it2, k_it3, walk_l, walk_f, walk_t, e_itR1, k_r11, k_r12, e_itR2, k_r21, k_r22, e_itE, k_en1, k_en2, k_en3, list_l, list_f, e_lc, k_lc, k_lcQ, compL_nil, compL_cons, k_c1, k_c2, k_c3, k_c4, e_yes, wip_nil, wip_cons, unw_nil, unw_cons, g_int, f_add, f_sub, f_mul, f_div, f_mod, f_pow, f_lt, f_le, f_gt, f_ge, add_i, add_s, add_l, add_t, mul_i, mul_l, mul_t, neg_i, ix_l, ix_t, sl_l, sl_f, sl_t, len_l, len_f, len_t, len_s, abs_i, int_i, lof_l, lof_f, lof_t, tof_l, tof_f, tof_t, dof_t, app_l, ext_t, ext_l, tru_b, tru_i, tru_l, tru_t, tru_n, augN, subN, is_bl, is_non, ixN4_0, ixN4_1, ixN4_2, ixN4_3, lk_some, lk_ite, lk_map, lk_bind, ixOf, endsF_nx, endsF_dat, endsF_own, atI_0, atI_1, atI_2, atI_3, eqA_l0, eqA_tup0, eqA_int, eqA_non, bne_f, bne_t, sizeLine_eq,
  List.cons_append, List.nil_append, List.getElem?_cons_zero, List.getElem?_cons_succ, List.set_cons_zero, List.set_cons_succ, List.length_cons, List.length_nil, List.replicate, List.take_succ_cons, List.take_zero, List.not_mem_nil, List.mem_cons, List.map_cons, List.map_nil, if_false, if_true, Option.map_some, Option.bind_some, Option.getD_some, Nat.reduceAdd, Nat.reduceSub, Nat.reduceLeDiff, Nat.reduceEqDiff, Nat.succ_ne_zero, Nat.zero_ne_one, Nat.one_ne_zero, List.isEmpty_nil, List.isEmpty_cons, List.length_map, List.isEmpty_map, beq_iff_eq, Bool.not_eq_true, reduceCtorEq, or_false, or_true, false_or, true_or, and_true, true_and, List.cons.injEq, Option.some.injEq, Sl.own.injEq, Own.lst.injEq, exists_eq', not_false_eq_true, forall_const, forall_eq, forall_eq_or_imp, decide_eq_true_eq, Bool.not_true, Bool.not_false, Bool.false_eq_true, ite_self])
abbrev lawB1 (ks : List Nat) (sp_is_tree : DSp) (sp_size_of : DSp) (sp__law_tags_of : DSp) : SD := (wSeq (wAsg ks 7 (wCall ks sp__law_tags_of (wCons (wVar 6) wNil)))
  (wSeq (wIfS (wOr (wBl (wOp (gIs true) (wCall ks sp_is_tree (wCons (wVar 3) (wCons (wVar 6) wNil))) (wC (.bl true)))) (wAnd (wBl (wOp (gInt fLe) (wVar 7) (wC (.int 400)))) (wBl (wOp (gEqA true) (wCall ks sp_size_of (wCons (wVar 6) wNil)) (wVar 7))))) (wRet ks (wC (.bl false))) wNext)
  (wIfS (wBl (wOp (gEqA true) (wB gRepr (wCons (wCall ks sp_is_tree (wCons (wVar 3) (wCons (wTup ks (wCons (wOp gIx (wVar 6) (wC (.int 0))) (wCons (wVar 6) wNil))) wNil))) wNil)) (wB gRepr (wCons (wOp (gIn false) (wTup ks (wCons (wOp gIx (wVar 6) (wC (.int 0))) (wCons (wC (.int 1)) wNil))) (wVar 3)) wNil)))) (wRet ks (wC (.bl false))) wNext)))
abbrev lawB2 (ks : List Nat) (sp__law_bent : DSp) : SD := (wDrop (wMut ks 8 gAppend (wCons (wCallR ks sp__law_bent (wCons (wVar 1) (wCons (wVar 3) (wCons (wOp gIx (wVar 5) (wC (.int 0))) wNil)))) wNil)))
abbrev lawB3 (ks : List Nat) (sp_is_tree : DSp) (sp__law_is_tree : DSp) : SD := (wSeq (wAsg ks 11 (wB gRepr (wCons (wVar 10) wNil)))
  (wIfS (wOr (wBl (wOp (gEqA true) (wB gRepr (wCons (wCall ks sp_is_tree (wCons (wVar 3) (wCons (wVar 10) wNil))) wNil)) (wB gRepr (wCons (wCall ks sp__law_is_tree (wCons (wVar 3) (wCons (wVar 10) wNil))) wNil)))) (wBl (wOp (gEqA true) (wB gRepr (wCons (wVar 10) wNil)) (wVar 11)))) (wRet ks (wC (.bl false))) wNext))
abbrev lawB0 (ks : List Nat) (sp_is_tree : DSp) (sp__law_is_tree : DSp) (sp__law_bent : DSp) (sp_size_of : DSp) (sp__law_tags_of : DSp) (sp__law_leaning : DSp) (sp__law_below : DSp) (sp__law_some_tree : DSp) (sp__law_pick : DSp) (sp__law_some_kind : DSp) : SD := (wSeq (wAsg ks 3 (wCallR ks sp__law_some_kind (wCons (wVar 1) (wCons (wCallR ks sp__law_pick (wCons (wVar 1) (wCons (wLst ks (wCons (wC (.int 2)) (wCons (wC (.int 3)) (wCons (wC (.int 5)) (wCons (wC (.int 8)) wNil))))) wNil))) wNil))))
  (wSeq (wAsg ks 4 (wCallR ks sp__law_pick (wCons (wVar 1) (wCons (wLst ks (wCons (wC (.int 1)) (wCons (wC (.int 7)) (wCons (wC (.int 40)) (wCons (wC (.int 90)) (wCons (wC (.int 390)) wNil)))))) wNil))))
  (wSeq (wAsg ks 5 (wLst ks (wCons (wCallR ks sp__law_some_tree (wCons (wVar 1) (wCons (wVar 3) (wCons (wCallR ks sp__law_below (wCons (wVar 1) (wCons (wC (.int 4)) wNil))) wNil)))) (wCons (wCallR ks sp__law_leaning (wCons (wVar 1) (wCons (wVar 3) (wCons (wVar 4) wNil)))) wNil))))
  (wSeq (wFor (wItS ks (wVar 5)) (hName ks 6) (lawB1 ks sp_is_tree sp_size_of sp__law_tags_of))
  (wSeq (wAsg ks 8 (wLst ks (wCons (wC .non) (wCons (wC (.bl true)) (wCons (wC (.int 1)) (wCons (wC (.str "")) (wCons (wOp gIx (wOp gIx (wVar 3) (wC (.int 0))) (wC (.int 0))) (wCons (wTup ks wNil) (wCons (wLst ks wNil) (wCons wDct0 (wCons (wTup ks (wCons (wOp gIx (wOp gIx (wVar 3) (wC (.int 0))) (wC (.int 0))) wNil)) (wCons (wVar 3) (wCons (wOp gIx (wVar 3) (wC (.int 0))) (wCons (wTup ks (wCons (wTup ks wNil) wNil)) (wCons (wTup ks (wCons (wC (.str "leaf")) (wCons (wTup ks (wCons (wC (.str "leaf")) wNil)) wNil))) wNil)))))))))))))))
  (wSeq (wFor (wItR1 (wCons (wC (.int 8)) wNil)) (hName ks 9) (lawB2 ks sp__law_bent))
  (wSeq (wDrop (wMut ks 8 gAppend (wCons (wIf (wTr (wCall ks sp__law_is_tree (wCons (wVar 3) (wCons (wOp gIx (wVar 8) (wUn gNeg (wC (.int 1)))) wNil)))) (wCallR ks sp__law_bent (wCons (wVar 1) (wCons (wVar 3) (wCons (wOp gIx (wVar 8) (wUn gNeg (wC (.int 1)))) wNil)))) (wTup ks (wCons (wOp gIx (wVar 8) (wUn gNeg (wC (.int 1)))) wNil))) wNil)))
  (wFor (wItS ks (wVar 8)) (hName ks 10) (lawB3 ks sp_is_tree sp__law_is_tree)))))))))
def rd_law (ks : List Nat) (sp_is_tree : DSp) (sp__law_is_tree : DSp) (sp__law_bent : DSp) (sp_size_of : DSp) (sp__law_tags_of : DSp) (sp__law_leaning : DSp) (sp__law_below : DSp) (sp__law_some_tree : DSp) (sp__law_pick : DSp) (sp__law_some_kind : DSp) (sp__law_deck_of : DSp) : SD :=
  (wSeq (wAsg ks 1 (wCall ks sp__law_deck_of (wCons (wVar 0) wNil)))
  (wSeq (wFor (wItR1 (wCons (wC (.int 3)) wNil)) (hName ks 2) (lawB0 ks sp_is_tree sp__law_is_tree sp__law_bent sp_size_of sp__law_tags_of sp__law_leaning sp__law_below sp__law_some_tree sp__law_pick sp__law_some_kind))
  (wRet ks (wC (.bl true)))))

def boolT (c : Bool) : Str := Str.ofString (if c then "True" else "False")
theorem repr_bl (c : Bool) : gRepr [.bl c] = some (.d (.str (boolT c))) := by cases c <;> rfl
theorem boolT_ok (c : Bool) : PyData.strOk (boolT c) = true := by cases c <;> decide +kernel
theorem eqA_same {x : Str} : gEqA true (.str x) (.str x) = some (.d (.bl false)) := by
  have := eqA_eq (neg := true) (eqB_str (x := x) (y := x))
  rw [this]
  simp
theorem pyDs_kind {k : Kind} : pyDs (k.map pairD) = some (k.map fun p => PyData.tuple [.str p.1, .int p.2]) := by
  induction k with
  | nil => rfl
  | cons p k ih =>
    rw [List.map_cons]
    unfold pyDs
    rw [ih]
    rfl
theorem can_kind {k : Kind} (h : TagsOk k) : PyData.canLayAll0 (k.map fun p => PyData.tuple [.str p.1, .int p.2]) = true := by
  induction k with
  | nil => rfl
  | cons p k ih =>
    rw [List.map_cons]
    unfold PyData.canLayAll0
    rw [ih fun q hq => h q (List.mem_cons_of_mem _ hq)]
    have : PyData.strOk p.1 = true := (tag_facts (h p List.mem_cons_self).2.2).1
    simp [PyData.canLay0, PyData.canLayAll0, this]
theorem any_kind (t : Str) (n : Int) (k : Kind) : (k.map fun p => PyData.tuple [.str p.1, .int p.2]).any (fun e => PyData.eqv e (.tuple [.str t, .int n])) = decide ((t, n) ∈ k) := by
  induction k with
  | nil => rfl
  | cons p k ih =>
    rw [List.map_cons, List.any_cons, ih]
    have e : PyData.eqv (.tuple [.str p.1, .int p.2]) (.tuple [.str t, .int n]) = decide ((t, n) = p) := by
      simp only [PyData.eqv, PyData.eqvAll, Bool.and_true]
      by_cases h : (t, n) = p
      · subst h; simp
      · rw [decide_eq_false h]
        by_cases h1 : p.1 = t
        · by_cases h2 : p.2 = n
          · exact absurd (by rw [← h1, ← h2]) h
          · simp [h2]
        · simp [h1]
    rw [e]
    by_cases h : (t, n) = p
    · simp [h]
    · simp [h]
theorem in_kind {k : Kind} (h : TagsOk k) {t : Str} (ht : PyData.strOk t = true) (n : Int) : gIn false (.tup [.str t, .int n]) (.tup (k.map pairD)) = some (.d (.bl (decide ((t, n) ∈ k)))) := by
  unfold gIn inB
  have e0 : seqD (.tup (k.map pairD)) = some (k.map pairD) := rfl
  have e1 : pyD (.tup [.str t, .int n]) = some (.tuple [.str t, .int n]) := rfl
  rw [e0, e1, Option.bind_some, Option.bind_some, pyDs_kind, Option.bind_some, if_pos ⟨by simp [PyData.canLay0, PyData.canLayAll0, ht], by simp [PyData.depth, PyData.depthAll], can_kind h⟩, any_kind]
  show some (Z.d (.bl (false != _))) = _
  rw [bne_f]
/-- the trees are recognized -/
theorem law_loop1 {k : Kind} {s0 s1 s2 s4 s5 s8 s9 s10 s11 : Sl} (hk : KindOk k) {DD : EndsD} (hN : ∀ (s6 s7 : Sl), DD.nx [s0, s1, s2, .dat (.tup (k.map pairD)), s4, s5, s6, s7, s8, s9, s10, s11]) : ∀ (ds : List D) (s6 s7 : Sl), (∀ d ∈ ds, isTreeB k d = true ∧ tagN d < 10000) →
    forL (hName [] 6) (lawB1 [] sp_is_tree sp_size_of sp__law_tags_of) DD ds [s0, s1, s2, .dat (.tup (k.map pairD)), s4, s5, s6, s7, s8, s9, s10, s11]
  | [], s6, s7, _ => hN s6 s7
  | d :: ds, s6, s7, h => by
    obtain ⟨ht, hz⟩ := h d List.mem_cons_self
    obtain ⟨f1, f2, f3, f4⟩ := tree_facts hk.rng d ht
    obtain ⟨t, l, rfl, hin, hl⟩ := tree_shape ht
    have hpt : Pl (.str t) := by rw [pl_tup, pls_cons] at f1; exact f1.1
    have hst : PyData.strOk t = true := by rw [pl_str] at hpt; exact hpt.1
    have hone : isTreeB k (.tup [.str t, .tup (.str t :: l)]) = decide ((t, (1 : Int)) ∈ k) := by
      conv => lhs; unfold isTreeB
      unfold allTreeB
      rw [ht]
      unfold allTreeB
      show (decide ((t, ((1 : Nat) : Int)) ∈ k) && (true && true)) = _
      rw [Bool.and_true, Bool.and_true]
      rfl
    walk_at "dl"
    refine ⟨_, rfl, f2, by omega, ?_⟩
    walk_at "dl"
    refine ⟨k, _, rfl, hk.nd, f1, by omega, ?_⟩
    rw [ht]
    walk_at "dl"
    rw [if_neg (by decide)]
    split
    · refine ⟨_, rfl, f2, by omega, ?_⟩
      walk_at "dl"
      rw [if_neg (by simp)]
      · refine ⟨k, .tup [.str t, .tup (.str t :: l)], rfl, hk.nd, by rw [pl_tup, pls_cons, pls_cons]; exact ⟨hpt, f1, by rw [pls_nil]; exact True.intro⟩, by rw [cnt_tup, cnts_cons, cnts_cons, cnt_str, cnts_nil]; omega, ?_⟩
        rw [hone]
        try walk_at "dl"
        rw [lk_eq (repr_bl _)]
        walk_at "dl"
        try refine ⟨by decide, ?_⟩
        rw [lk_eq (in_kind hk.rng hst 1)]
        walk_at "dl"
        rw [lk_eq (repr_bl _)]
        walk_at "dl"
        rw [lk_eq eqA_same]
        walk_at "dl"
        exact law_loop1 hk hN ds _ _ fun x hx => h x (List.mem_cons_of_mem _ hx)
    · refine ⟨k, .tup [.str t, .tup (.str t :: l)], rfl, hk.nd, by rw [pl_tup, pls_cons, pls_cons]; exact ⟨hpt, f1, by rw [pls_nil]; exact True.intro⟩, by rw [cnt_tup, cnts_cons, cnts_cons, cnt_str, cnts_nil]; omega, ?_⟩
      rw [hone]
      try walk_at "dl"
      rw [lk_eq (repr_bl _)]
      walk_at "dl"
      try refine ⟨by decide, ?_⟩
      rw [lk_eq (in_kind hk.rng hst 1)]
      walk_at "dl"
      rw [lk_eq (repr_bl _)]
      walk_at "dl"
      rw [lk_eq eqA_same]
      walk_at "dl"
      exact law_loop1 hk hN ds _ _ fun x hx => h x (List.mem_cons_of_mem _ hx)
structure Wv (v : D) : Prop where
  pl : Pl v
  dp : dp v ≤ 6
  tl : tl v ≤ 25000
  cnt : cnt v ≤ 500
structure Vv (v : D) : Prop where
  pl : Pl v
  dp : dp v ≤ 10
  tl : tl v ≤ 900000
  cnt : cnt v < 900000
theorem law_loop2 {k : Kind} {n : Nat} {t0 t1 : D} {s0 s2 s4 s6 s7 s10 s11 : Sl} (hk : KindOk k) (ht : isTreeB k t0 = true) (hz : tagN t0 ≤ 85) (hdp : dp t0 ≤ 4) {DD : EndsD} (hN : ∀ (o : Own) (vs : List D) (s9 : Sl), Dk n o → vs ≠ [] → vs.length ≤ 50 → (∀ v ∈ vs, Wv v) → DD.nx [s0, .own o, s2, .dat (.tup (k.map pairD)), s4, .dat (.lst [t0, t1]), s6, s7, .own (.lst vs), s9, s10, s11]) : ∀ (ds : List D) (o : Own) (vs : List D) (s9 : Sl), Dk (n + 25 * ds.length) o → vs ≠ [] → vs.length + ds.length ≤ 50 → (∀ v ∈ vs, Wv v) →
    forL (hName [] 9) (lawB2 [] (sp__law_bent 10)) DD ds [s0, .own o, s2, .dat (.tup (k.map pairD)), s4, .dat (.lst [t0, t1]), s6, s7, .own (.lst vs), s9, s10, s11]
  | [], o, vs, s9, hd, h0, hl, hv => hN o vs s9 hd h0 hl hv
  | d :: ds, o, vs, s9, hd, h0, hl, hv => by
    rw [List.length_cons] at hd hl
    obtain ⟨f1, f2, f3, f4⟩ := tree_facts hk.rng t0 ht
    walk_at "dl"
    refine ⟨n + 25 * ds.length, o, k, t0, rfl, hk, ht, by omega, by omega, hd.mono (by omega), fun x o1 hb hd1 => ?_⟩
    walk_at "dl"
    obtain ⟨b1, b2, b3, b4⟩ := hb
    refine ⟨by omega, ?_⟩
    refine law_loop2 hk ht hz hdp hN ds o1 (vs ++ [x]) _ hd1 (by simp) (by rw [List.length_append, List.length_singleton]; omega) fun v hvm => ?_
    rcases List.mem_append.mp hvm with h | h
    · exact hv v h
    · rw [List.mem_singleton.mp h]
      exact ⟨b1, by omega, by omega, by omega⟩
theorem law_loop3 {k : Kind} {s0 s1 s2 s4 s5 s6 s7 s8 s9 : Sl} (hk : KindOk k) {DD : EndsD} (hN : ∀ (s10 s11 : Sl), DD.nx [s0, s1, s2, .dat (.tup (k.map pairD)), s4, s5, s6, s7, s8, s9, s10, s11]) : ∀ (ds : List D) (s10 s11 : Sl), (∀ v ∈ ds, Vv v) →
    forL (hName [] 10) (lawB3 [] sp_is_tree (sp__law_is_tree 12)) DD ds [s0, s1, s2, .dat (.tup (k.map pairD)), s4, s5, s6, s7, s8, s9, s10, s11]
  | [], s10, s11, _ => hN s10 s11
  | v :: ds, s10, s11, h => by
    obtain ⟨v1, v2, v3, v4⟩ := h v List.mem_cons_self
    obtain ⟨x, hx⟩ := text_ok v1 (by omega) v3
    walk_at "dl"
    rw [lk_eq hx]
    walk_at "dl"
    refine ⟨k, v, rfl, hk.nd, v1, v4, ?_⟩
    walk_at "dl"
    rw [lk_eq (repr_bl _)]
    walk_at "dl"
    refine ⟨k, v, rfl, hk, v1, v4, by omega, ?_⟩
    walk_at "dl"
    rw [lk_eq (repr_bl _)]
    walk_at "dl"
    rw [lk_eq eqA_same]
    walk_at "dl"
    rw [lk_eq hx]
    walk_at "dl"
    rw [lk_eq eqA_same]
    walk_at "dl"
    exact law_loop3 hk hN ds _ _ fun y hy => h y (List.mem_cons_of_mem _ hy)
theorem atI_last {l : List D} (h : l ≠ []) : ∃ x, x ∈ l ∧ atI l (-1) = some x := by
  have hl : 0 < l.length := List.length_pos_iff.mpr h
  refine ⟨l[l.length - 1], List.getElem_mem (by omega), ?_⟩
  unfold atI ixN
  rw [if_neg (by decide), if_pos (by omega), Option.bind_some]
  have e : (-1 + (l.length : Int)).toNat = l.length - 1 := by omega
  rw [e]
  exact List.getElem?_eq_getElem (by omega)
theorem wv_kind {k : Kind} (hk : KindOk k) : Wv (.tup (k.map pairD)) := by
  have hp : ∀ (l : Kind), TagsOk l → Pls (l.map pairD) ∧ dps (l.map pairD) ≤ 1 ∧ tls (l.map pairD) ≤ 100 * l.length ∧ cnts (l.map pairD) = 3 * l.length := by
    intro l
    induction l with
    | nil => intro _; exact ⟨by rw [List.map_nil, pls_nil]; exact True.intro, Nat.zero_le _, Nat.le_refl _, rfl⟩
    | cons p l ih =>
      intro h
      obtain ⟨a1, a2, a3, a4⟩ := ih fun q hq => h q (List.mem_cons_of_mem _ hq)
      obtain ⟨r1, r2, r3⟩ := h p List.mem_cons_self
      have htf : PyData.strOk p.1 = true ∧ p.1.length ≤ 8 := tag_facts r3
      have ep : pairD p = .tup [.str p.1, .int p.2] := rfl
      rw [List.map_cons, ep]
      refine ⟨?_, ?_, ?_, ?_⟩
      · simp only [pls_cons, pl_tup, pl_str, pl_int, pls_nil, and_true]
        exact ⟨⟨⟨htf.1, by omega⟩, by omega, by omega⟩, a1⟩
      · simp only [dps_cons, dp_tup, dp_str, dp_int, dps_nil]; omega
      · simp only [tls_cons, tl_tup, tl_str, tl_int, tls_nil, List.length_cons]; omega
      · simp only [cnts_cons, cnt_tup, cnt_str, cnt_int, cnts_nil, List.length_cons]; omega
  obtain ⟨a1, a2, a3, a4⟩ := hp k hk.rng
  have hl := hk.len
  exact ⟨by rw [pl_tup]; exact a1, by rw [dp_tup]; omega, by rw [tl_tup]; omega, by rw [cnt_tup]; omega⟩
theorem law_turn {n : Nat} {s0 : Sl} {DD : EndsD} (hN : ∀ (o : Own) (s2 s3 s4 s5 s6 s7 s8 s9 s10 s11 : Sl), Dk n o → DD.nx [s0, .own o, s2, s3, s4, s5, s6, s7, s8, s9, s10, s11]) {o : Own} {s2 s3 s4 s5 s6 s7 s8 s9 s10 s11 : Sl} (hd : Dk (n + 10000) o) :
    lawB0 [] sp_is_tree (sp__law_is_tree 12) (sp__law_bent 10) sp_size_of sp__law_tags_of sp__law_leaning sp__law_below (sp__law_some_tree 4) sp__law_pick sp__law_some_kind DD [s0, .own o, s2, s3, s4, s5, s6, s7, s8, s9, s10, s11] := by
  walk_at "dl"
  refine ⟨n + 9999, o, _, rfl, hd, by simp, by decide, fun x o1 hx hd1 => ?_⟩
  obtain ⟨most, rfl, m0, m1⟩ : ∃ p : Int, x = .int p ∧ 2 ≤ p ∧ p ≤ 8 := by
    simp only [List.mem_cons, List.not_mem_nil, or_false] at hx
    rcases hx with rfl | rfl | rfl | rfl <;> exact ⟨_, rfl, by decide⟩
  walk_at "dl"
  refine ⟨n + 9800, o1, most, rfl, hd1.mono (by omega), m0, m1, fun k o2 hk hd2 => ?_⟩
  walk_at "dl"
  refine ⟨n + 9799, o2, _, rfl, hd2, by simp, by decide, fun x o3 hx hd3 => ?_⟩
  obtain ⟨levels, rfl, hlev⟩ : ∃ p : Nat, x = .int (p : Nat) ∧ p ≤ 390 := by
    simp only [List.mem_cons, List.not_mem_nil, or_false] at hx
    rcases hx with rfl | rfl | rfl | rfl | rfl
    · exact ⟨1, rfl, by decide⟩
    · exact ⟨7, rfl, by decide⟩
    · exact ⟨40, rfl, by decide⟩
    · exact ⟨90, rfl, by decide⟩
    · exact ⟨390, rfl, by decide⟩
  walk_at "dl"
  refine ⟨n + 9798, o3, _, rfl, hd3, by decide, by decide, fun r o4 r0 r1 hd4 => ?_⟩
  walk_at "dl"
  obtain ⟨deep, rfl⟩ : ∃ q : Nat, r = (q : Nat) := ⟨r.toNat, by omega⟩
  have hdeep : deep < 4 := by omega
  have hfu : fuelT deep ≤ 85 := by
    have : deep = 0 ∨ deep = 1 ∨ deep = 2 ∨ deep = 3 := by omega
    rcases this with rfl | rfl | rfl | rfl <;> decide
  refine ⟨n + 9700, o4, k, deep, rfl, hdeep, hk, hd4.mono (by omega), fun t0 o5 h1 h2 h3 hd5 => ?_⟩
  walk_at "dl"
  refine ⟨n + 5000, o5, k, levels, rfl, hlev, hk, hd5.mono (by omega), fun t1 o6 g1 g2 hd6 => ?_⟩
  have ek : kindD k = .tup (k.map pairD) := rfl
  rw [ek]
  walk_at "dlf"
  refine law_loop1 hk (fun s6' s7' => ?_) [t0, t1] _ _ fun d hdm => ?_
  · cases k with
    | nil => obtain ⟨t, ht⟩ := hk.leaf; cases ht
    | cons p k' =>
      have ep : pairD p = .tup [.str p.1, .int p.2] := rfl
      have hp := hk.rng p List.mem_cons_self
      have htf : PyData.strOk p.1 = true ∧ p.1.length ≤ 8 := tag_facts hp.2.2
      have hwk := wv_kind hk
      rw [List.map_cons, ep] at hwk
      rw [List.map_cons, ep]
      walk_at "dl"
      have base : ∀ v ∈ [D.non, D.bl true, D.int 1, D.str (Str.ofString ""), D.str p.1, D.tup [], D.lst [], D.dct [], D.tup [D.str p.1], D.tup (D.tup [D.str p.1, D.int p.2] :: k'.map pairD), D.tup [D.str p.1, D.int p.2], D.tup [D.tup []], D.tup [D.str (Str.ofString "leaf"), D.tup [D.str (Str.ofString "leaf")]]], Wv v := fun v hv => by
        have e0 : (Str.ofString "").length = 0 := by decide
        have ok0 : PyData.strOk (Str.ofString "") = true := by decide +kernel
        have e1 : (Str.ofString "leaf").length = 4 := by decide
        have ok1 : PyData.strOk (Str.ofString "leaf") = true := by decide +kernel
        have n1 : p.1.length ≤ 100 := by omega
        have n2 : 0 ≤ p.2 := hp.1
        have n3 : p.2 ≤ 9 := by omega
        simp only [List.mem_cons, List.not_mem_nil, or_false] at hv
        rcases hv with rfl | rfl | rfl | rfl | rfl | rfl | rfl | rfl | rfl | rfl | rfl | rfl | rfl
        all_goals first
          | exact hwk
          | (refine ⟨?_, ?_, ?_, ?_⟩
             · simp only [pls_cons, pls_nil, pl_tup, pl_lst, pl_str, pl_int, pl_non, pl_bl, pl_dct, and_true, true_and, htf.1, ok0, e0, ok1, e1, n1, n2, n3] <;> decide
             · simp only [dp_tup, dp_lst, dp_str, dp_int, dp_non, dp_bl, dp_dct, dps_nil, dps_cons]
               omega
             · simp only [tl_tup, tl_lst, tl_str, tl_int, tl_non, tl_bl, tl_dct, tls_nil, tls_cons, e0, e1]
               omega
             · simp only [cnt_tup, cnt_lst, cnt_str, cnt_int, cnt_non, cnt_bl, cnt_dct, cnts_nil, cnts_cons]
               omega)
      refine ⟨by decide, by decide, ?_⟩
      have lr : (rangeD (8 : Int)).length = 8 := rangeD_len 8
      refine law_loop2 (k := p :: k') (n := n + 100) hk h1 (by omega) (by omega) (fun o7 vs s9' hd7 hv0 hvl hv => ?_) (rangeD 8) o6 _ s9 (hd6.mono (by rw [lr]; omega)) (by simp) (by rw [lr]; simp) base
      obtain ⟨x, hx, ex⟩ := atI_last hv0
      obtain ⟨x1, x2, x3, x4⟩ := hv x hx
      have fin : ∀ (y : D) (o8 : Own), Dk n o8 → Vv y → ∀ (s2 s9 s10 s11 : Sl), forL (hName [] 10) (lawB3 [] sp_is_tree (sp__law_is_tree 12)) DD (vs ++ [y]) [s0, .own o8, s2, .dat (.tup ((p :: k').map pairD)), .dat (.int (levels : Nat)), .dat (.lst [t0, t1]), s6', s7', .dat (.lst (vs ++ [y])), s9, s10, s11] := fun y o8 hd8 hy s2 s9 s10 s11 => by
        refine law_loop3 hk (fun s10' s11' => hN o8 _ _ _ _ _ _ _ _ _ _ hd8) (vs ++ [y]) _ _ fun v hvm => ?_
        rcases List.mem_append.mp hvm with h | h
        · obtain ⟨y1, y2, y3, y4⟩ := hv v h
          exact ⟨y1, by omega, by omega, by omega⟩
        · rw [List.mem_singleton.mp h]; exact hy
      walk_at "dlf"
      rw [lk_eq ex]
      refine ⟨p :: k', x, rfl, hk, x1, by omega, by omega, ?_⟩
      walk_at "dlf"
      cases hT : isTreeB (p :: k') x with
      | true =>
        walk_at "dlf"
        rw [lk_eq ex]
        try walk_at "dlf"
        have hc := (tree_facts hk.rng x hT).2.2.2
        refine ⟨n, o7, p :: k', x, rfl, hk, hT, by omega, by omega, hd7.mono (by omega), fun y o8 hb hd8 => ?_⟩
        obtain ⟨b1, b2, b3, b4⟩ := hb
        walk_at "dlf"
        exact ⟨by omega, fin y o8 hd8 ⟨b1, by omega, by omega, by omega⟩ _ _ _ _⟩
      | false =>
        walk_at "dlf"
        rw [lk_eq ex]
        try walk_at "dlf"
        refine ⟨by omega, fin (.tup [x]) o7 (hd7.mono (by omega)) ⟨?_, ?_, ?_, ?_⟩ _ _ _ _⟩
        · simp only [pl_tup, pls_cons, pls_nil, and_true]; exact x1
        · simp only [dp_tup, dps_cons, dps_nil]; omega
        · simp only [tl_tup, tls_cons, tls_nil]; omega
        · simp only [cnt_tup, cnts_cons, cnts_nil]; omega
  · simp only [List.mem_cons, List.not_mem_nil, or_false] at hdm
    rcases hdm with rfl | rfl
    · exact ⟨h1, by omega⟩
    · exact ⟨g1, by omega⟩
theorem law_loop0 {n : Nat} {s0 : Sl} {DD : EndsD} (hN : ∀ (o : Own) (s2 s3 s4 s5 s6 s7 s8 s9 s10 s11 : Sl), Dk n o → DD.nx [s0, .own o, s2, s3, s4, s5, s6, s7, s8, s9, s10, s11]) : ∀ (ds : List D) (o : Own) (s2 s3 s4 s5 s6 s7 s8 s9 s10 s11 : Sl), Dk (n + 10000 * ds.length) o →
    forL (hName [] 2) (lawB0 [] sp_is_tree (sp__law_is_tree 12) (sp__law_bent 10) sp_size_of sp__law_tags_of sp__law_leaning sp__law_below (sp__law_some_tree 4) sp__law_pick sp__law_some_kind) DD ds [s0, .own o, s2, s3, s4, s5, s6, s7, s8, s9, s10, s11]
  | [], o, s2, s3, s4, s5, s6, s7, s8, s9, s10, s11, hd => hN o s2 s3 s4 s5 s6 s7 s8 s9 s10 s11 (by simpa using hd)
  | d :: ds, o, s2, s3, s4, s5, s6, s7, s8, s9, s10, s11, hd => by
    rw [List.length_cons] at hd
    rw [forL_cons, e_hName, if_neg (by simp)]
    simp only [List.set_cons_succ, List.set_cons_zero]
    rw [k_fo2]
    refine law_turn (n := n + 10000 * ds.length) (fun o1 s2 s3 s4 s5 s6 s7 s8 s9 s10 s11 hd1 => ?_) (hd.mono (by omega))
    exact law_loop0 hN ds o1 s2 s3 s4 s5 s6 s7 s8 s9 s10 s11 hd1
def sp_law : DSp := fun args Q _ => ∃ (l : List Int), args = [.dat (.fzl (l.map .int))] ∧ l.length ≤ 63 ∧ Q (.dat (.bl true)) [.dat (.fzl (l.map .int))]
theorem pl_law : PL 12 1 (fun ks => rd_law ks sp_is_tree (sp__law_is_tree 12) (sp__law_bent 10) sp_size_of sp__law_tags_of sp__law_leaning sp__law_below (sp__law_some_tree 4) sp__law_pick sp__law_some_kind sp__law_deck_of) sp_law := fun args QD ED h => by
  obtain ⟨l, rfl, hl, h⟩ := h
  refine ⟨rfl, ?_⟩
  unfold rd_law
  walk_at "dlf"
  refine ⟨l, rfl, hl, fun o hd => ?_⟩
  walk_at "dlf"
  refine ⟨by decide, by decide, ?_⟩
  have lr : (rangeD (3 : Int)).length = 3 := rangeD_len 3
  refine law_loop0 (n := 0) (fun o s2 s3 s4 s5 s6 s7 s8 s9 s10 s11 hd1 => ?_) (rangeD 3) o _ _ _ _ _ _ _ _ _ _ (hd.mono (by rw [lr]; omega))
  walk_at "dlf"
  exact h
end DL

set_option Elab.async false
set_option maxRecDepth 100000
set_option maxHeartbeats 4000000
namespace DL
open PySem PySem.Spec PyProof.Rows L2
theorem no__law_some_tree : ∀ args Q E, ¬ sp__law_some_tree 0 args Q E := fun args Q E h => by
  obtain ⟨_, _, _, _, _, h, _⟩ := h
  exact absurd h (Nat.not_lt_zero _)
theorem no__law_is_tree : ∀ args Q E, ¬ sp__law_is_tree 0 args Q E := fun args Q E h => by
  obtain ⟨_, _, _, _, _, _, h, _⟩ := h
  exact absurd h (Nat.not_lt_zero _)
theorem no__law_bent : ∀ args Q E, ¬ sp__law_bent 0 args Q E := fun args Q E h => by
  obtain ⟨_, _, _, _, _, _, _, h, _⟩ := h
  exact absurd h (Nat.not_lt_zero _)
structure Blts (mg : Str → Option Value) (base : Heap) : Prop where
  len : mg "len" = none
  abs : mg "abs" = none
  int : mg "int" = none
  str : mg "str" = none
  bool : mg "bool" = none
  repr : mg "repr" = none
  isinstance : mg "isinstance" = none
  list : mg "list" = none
  tuple : mg "tuple" = none
  dict : mg "dict" = none
  range : mg "range" = none
  enumerate : mg "enumerate" = none
  mods : ModsOk base
def top (i : Nat) : Stmt := PySem.Challenge.pw_layoutswap_k30_trees_recognized.main.body.getD i (.Pass ⟨0, 0, 0, 0⟩)
abbrev s_parts_of : Stmt := top 1
abbrev n_parts_of : List Str := ["kind", "tag"]
theorem sc_parts_of : FnScope n_parts_of ["kind", "tag"] (defScope s_parts_of) := ⟨rfl, rfl, rfl, by decide +kernel, rfl, by decide +kernel, by decide +kernel⟩
abbrev s_nodes_of : Stmt := top 3
abbrev n_nodes_of : List Str := ["tree", "found", "at"]
theorem sc_nodes_of : FnScope n_nodes_of ["tree"] (defScope s_nodes_of) := ⟨rfl, rfl, rfl, by decide +kernel, rfl, by decide +kernel, by decide +kernel⟩
abbrev s_size_of : Stmt := top 4
abbrev n_size_of : List Str := ["tree"]
theorem sc_size_of : FnScope n_size_of ["tree"] (defScope s_size_of) := ⟨rfl, rfl, rfl, by decide +kernel, rfl, by decide +kernel, by decide +kernel⟩
abbrev s_is_node : Stmt := top 5
abbrev n_is_node : List Str := ["kind", "thing"]
theorem sc_is_node : FnScope n_is_node ["kind", "thing"] (defScope s_is_node) := ⟨rfl, rfl, rfl, by decide +kernel, rfl, by decide +kernel, by decide +kernel⟩
abbrev s_is_tree : Stmt := top 6
abbrev n_is_tree : List Str := ["kind", "thing", "waiting", "one"]
theorem sc_is_tree : FnScope n_is_tree ["kind", "thing"] (defScope s_is_tree) := ⟨rfl, rfl, rfl, by decide +kernel, rfl, by decide +kernel, by decide +kernel⟩
abbrev s__law_mixed : Stmt := top 8
abbrev n__law_mixed : List Str := ["number", "lap", "prime", "found", "again"]
theorem sc__law_mixed : FnScope n__law_mixed ["number", "lap"] (defScope s__law_mixed) := ⟨rfl, rfl, rfl, by decide +kernel, rfl, by decide +kernel, by decide +kernel⟩
abbrev s__law_deck_of : Stmt := top 9
abbrev n__law_deck_of : List Str := ["script", "cell", "cells", "place"]
theorem sc__law_deck_of : FnScope n__law_deck_of ["script"] (defScope s__law_deck_of) := ⟨rfl, rfl, rfl, by decide +kernel, rfl, by decide +kernel, by decide +kernel⟩
abbrev s__law_below : Stmt := top 10
abbrev n__law_below : List Str := ["deck", "bound", "cells", "place", "amount", "found"]
theorem sc__law_below : FnScope n__law_below ["deck", "bound"] (defScope s__law_below) := ⟨rfl, rfl, rfl, by decide +kernel, rfl, by decide +kernel, by decide +kernel⟩
abbrev s__law_pick : Stmt := top 11
abbrev n__law_pick : List Str := ["deck", "some"]
theorem sc__law_pick : FnScope n__law_pick ["deck", "some"] (defScope s__law_pick) := ⟨rfl, rfl, rfl, by decide +kernel, rfl, by decide +kernel, by decide +kernel⟩
abbrev s__law_some_kind : Stmt := top 12
abbrev n__law_some_kind : List Str := ["deck", "most", "parts", "turn", "tags", "found", "tag"]
theorem sc__law_some_kind : FnScope n__law_some_kind ["deck", "most"] (defScope s__law_some_kind) := ⟨rfl, rfl, rfl, by decide +kernel, rfl, by decide +kernel, by decide +kernel⟩
abbrev s__law_some_tree : Stmt := top 13
abbrev n__law_some_tree : List Str := ["deck", "kind", "deep", "some", "tag", "parts", "pair", "part"]
theorem sc__law_some_tree : FnScope n__law_some_tree ["deck", "kind", "deep"] (defScope s__law_some_tree) := ⟨rfl, rfl, rfl, by decide +kernel, rfl, by decide +kernel, by decide +kernel⟩
abbrev s__law_is_tree : Stmt := top 14
abbrev n__law_is_tree : List Str := ["kind", "thing", "pair", "part"]
theorem sc__law_is_tree : FnScope n__law_is_tree ["kind", "thing"] (defScope s__law_is_tree) := ⟨rfl, rfl, rfl, by decide +kernel, rfl, by decide +kernel, by decide +kernel⟩
abbrev s__law_leaning : Stmt := top 15
abbrev n__law_leaning : List Str := ["deck", "kind", "levels", "tag", "parts", "leaves", "found", "level", "place", "pair"]
theorem sc__law_leaning : FnScope n__law_leaning ["deck", "kind", "levels"] (defScope s__law_leaning) := ⟨rfl, rfl, rfl, by decide +kernel, rfl, by decide +kernel, by decide +kernel⟩
abbrev s__law_bent : Stmt := top 16
abbrev n__law_bent : List Str := ["deck", "kind", "tree", "place", "tag", "rest", "leaf", "some", "pair"]
theorem sc__law_bent : FnScope n__law_bent ["deck", "kind", "tree"] (defScope s__law_bent) := ⟨rfl, rfl, rfl, by decide +kernel, rfl, by decide +kernel, by decide +kernel⟩
abbrev s__law_tags_of : Stmt := top 17
abbrev n__law_tags_of : List Str := ["tree", "found", "waiting", "one"]
theorem sc__law_tags_of : FnScope n__law_tags_of ["tree"] (defScope s__law_tags_of) := ⟨rfl, rfl, rfl, by decide +kernel, rfl, by decide +kernel, by decide +kernel⟩
abbrev s_law : Stmt := top 18
abbrev n_law : List Str := ["script", "deck", "turn", "kind", "levels", "trees", "tree", "tags", "values", "lap", "value", "before"]
theorem sc_law : FnScope n_law ["script"] (defScope s_law) := ⟨rfl, rfl, rfl, by decide +kernel, rfl, by decide +kernel, by decide +kernel⟩

theorem dv_parts_of {P : Program} {w : World} {K : PySem.W.Frag} {mg : Str → Option Value} {base : Heap} {f : Addr} {cdv : Value} {A : Around} {out : List Env} {s0 : Shared} {H : Hp} {E : XK} {b : Bas} {k : Nat} {ks : List Nat} (zb : Blts mg base) (hk : b.kp.map (·.1) = ks) (room : Room k (A.deeper (envOfC "parts_of" (defScope s_parts_of) s0.heap.objs.size f cdv))) (grd : (A.deeper (envOfC "parts_of" (defScope s_parts_of) s0.heap.objs.size f cdv)).guards = some []) :
    PSsD (cxOf CX0 P w K mg base n_parts_of "parts_of" (defScope s_parts_of) f cdv A out s0 H E).nox b (defBody s_parts_of) (rd_parts_of ks) :=
  (ss_one (s_ret hk (d_get1D (u1 room) (d_ty (call_dictT rfl) b_dictOf rfl zb.dict bt_dict (a_cons (d_var 0 (pv 0)) a_nil)) (d_var 1 (pv 1)) ⟨rfl, rfl, rfl, rfl⟩)))
theorem dv_nodes_of {P : Program} {w : World} {K : PySem.W.Frag} {mg : Str → Option Value} {base : Heap} {f : Addr} {cdv : Value} {A : Around} {out : List Env} {s0 : Shared} {H : Hp} {E : XK} {b : Bas} {k : Nat} {ks : List Nat} (zb : Blts mg base) (hk : b.kp.map (·.1) = ks) (room : Room k (A.deeper (envOfC "nodes_of" (defScope s_nodes_of) s0.heap.objs.size f cdv))) (grd : (A.deeper (envOfC "nodes_of" (defScope s_nodes_of) s0.heap.objs.size f cdv)).guards = some []) :
    PSsD (cxOf CX0 P w K mg base n_nodes_of "nodes_of" (defScope s_nodes_of) f cdv A out s0 H E).nox b (defBody s_nodes_of) (rd_nodes_of ks) :=
  (ss_cons (s_par2 (i := 1) (j := 2) hk rfl sc_nodes_of.nd rfl rfl (by decide) rfl rfl (a_cons (d_lst hk (a_cons (d_var 0 (pv 0)) a_nil)) (a_cons (d_c (.int 0) pe_int) a_nil)) rfl)
      (ss_cons (s_while PassesOwn.never (t_cmp op_lt o_lt (d_var 2 (pv 2)) (d_b call_len b_len rfl zb.len bt_len (a_cons (d_var 1 (pv 1)) a_nil)) rfl) (ss_cons (s_expr (d_mut (i := 1) hk m_extend mt_extA F.plainAttrs_list F.slot_list_extend F.type_list_extend (pv 1) (a_cons (d_sl sl_any o_sl (d_ix ix_seq o_ix (d_var 1 (pv 1)) (d_var 2 (pv 2))) (p_some (d_c (.int 1) pe_int)) p_none) a_nil)))
      (ss_one (s_aug (i := 2) hk o_addN sc_nodes_of.nd rfl (.inl rfl) (d_c (.int 1) pe_int) ip_add))))
      (ss_one (s_ret hk (d_var 1 (pv 1))))))
theorem dv_size_of {P : Program} {w : World} {K : PySem.W.Frag} {mg : Str → Option Value} {base : Heap} {f : Addr} {cdv : Value} {A : Around} {out : List Env} {s0 : Shared} {H : Hp} {E : XK} {b : Bas} {k : Nat} {ks : List Nat} (zb : Blts mg base) (hk : b.kp.map (·.1) = ks) (room : Room k (A.deeper (envOfC "size_of" (defScope s_size_of) s0.heap.objs.size f cdv))) (grd : (A.deeper (envOfC "size_of" (defScope s_size_of) s0.heap.objs.size f cdv)).guards = some []) {sp_nodes_of : DSp} {k_nodes_of : Nat} (c_nodes_of : KnownP P w K mg base k_nodes_of "nodes_of" sp_nodes_of) (h_nodes_of : k_nodes_of ≤ k) :
    PSsD (cxOf CX0 P w K mg base n_size_of "size_of" (defScope s_size_of) f cdv A out s0 H E).nox b (defBody s_size_of) (rd_size_of ks sp_nodes_of) :=
  (ss_one (s_ret hk (d_b call_len b_len rfl zb.len bt_len (a_cons (d_callP hk c_nodes_of (room.mono h_nodes_of) grd rfl (a_cons (d_var 0 (pv 0)) a_nil)) a_nil))))
theorem dv_is_node {P : Program} {w : World} {K : PySem.W.Frag} {mg : Str → Option Value} {base : Heap} {f : Addr} {cdv : Value} {A : Around} {out : List Env} {s0 : Shared} {H : Hp} {E : XK} {b : Bas} {k : Nat} {ks : List Nat} (zb : Blts mg base) (hk : b.kp.map (·.1) = ks) (room : Room k (A.deeper (envOfC "is_node" (defScope s_is_node) s0.heap.objs.size f cdv))) (grd : (A.deeper (envOfC "is_node" (defScope s_is_node) s0.heap.objs.size f cdv)).guards = some []) {sp_parts_of : DSp} {k_parts_of : Nat} (c_parts_of : KnownP P w K mg base k_parts_of "parts_of" sp_parts_of) (h_parts_of : k_parts_of ≤ k) :
    PSsD (cxOf CX0 P w K mg base n_is_node "is_node" (defScope s_is_node) f cdv A out s0 H E).nox b (defBody s_is_node) (rd_is_node ks sp_parts_of) :=
  (ss_cons (s_if (t_w (tw_or (t_not (t_tr (d_b call_isi b_isi rfl zb.isinstance bt_isinstance (a_cons (d_var 1 (pv 1)) (a_cons (d_tyN rfl zb.tuple bt_tuple) a_nil))))) (tw_or (t_cmp (op_eqA (u64 room)) o_eqA (d_var 1 (pv 1)) (d_tup hk a_nil) rfl) (tw_or1 (t_not (t_tr (d_b call_isi b_isi rfl zb.isinstance bt_isinstance (a_cons (d_ix ix_seq o_ix (d_var 1 (pv 1)) (d_c (.int 0) pe_int)) (a_cons (d_tyN rfl zb.str bt_str) a_nil))))))))) (ss_one (s_ret hk (d_c (.bl false) pe_bl))) ss_nil)
      (ss_one (s_ret hk (d_cmp (op_eqA (u64 room)) o_eqA (d_callP hk c_parts_of (room.mono h_parts_of) grd rfl (a_cons (d_var 0 (pv 0)) (a_cons (d_ix ix_seq o_ix (d_var 1 (pv 1)) (d_c (.int 0) pe_int)) a_nil))) (d_op op_sub o_sub (d_b call_len b_len rfl zb.len bt_len (a_cons (d_var 1 (pv 1)) a_nil)) (d_c (.int 1) pe_int)) rfl))))
theorem dv_is_tree {P : Program} {w : World} {K : PySem.W.Frag} {mg : Str → Option Value} {base : Heap} {f : Addr} {cdv : Value} {A : Around} {out : List Env} {s0 : Shared} {H : Hp} {E : XK} {b : Bas} {k : Nat} {ks : List Nat} (zb : Blts mg base) (hk : b.kp.map (·.1) = ks) (room : Room k (A.deeper (envOfC "is_tree" (defScope s_is_tree) s0.heap.objs.size f cdv))) (grd : (A.deeper (envOfC "is_tree" (defScope s_is_tree) s0.heap.objs.size f cdv)).guards = some []) {sp_is_node : DSp} {k_is_node : Nat} (c_is_node : KnownP P w K mg base k_is_node "is_node" sp_is_node) (h_is_node : k_is_node ≤ k) :
    PSsD (cxOf CX0 P w K mg base n_is_tree "is_tree" (defScope s_is_tree) f cdv A out s0 H E).nox b (defBody s_is_tree) (rd_is_tree ks sp_is_node) :=
  (ss_cons (s_set (i := 2) hk sc_is_tree.nd rfl (.inl rfl) (d_lst hk (a_cons (d_var 1 (pv 1)) a_nil)))
      (ss_cons (s_while PassesOwn.never (t_cmp (op_neA (u64 room)) o_eqA (d_var 2 (pv 2)) (d_lst hk a_nil) rfl) (ss_cons (s_set (i := 3) hk sc_is_tree.nd rfl (.inl rfl) (d_mut0 (i := 2) hk m_pop mt_pop F.plainAttrs_list F.slot_list_pop F.type_list_pop (pv 2)))
      (ss_cons (s_if (t_not (t_tr (d_callP hk c_is_node (room.mono h_is_node) grd rfl (a_cons (d_var 0 (pv 0)) (a_cons (d_var 3 (pv 3)) a_nil))))) (ss_one (s_ret hk (d_c (.bl false) pe_bl))) ss_nil)
      (ss_one (s_expr (d_mut (i := 2) hk m_extend mt_extA F.plainAttrs_list F.slot_list_extend F.type_list_extend (pv 2) (a_cons (d_sl sl_any o_sl (d_var 3 (pv 3)) (p_some (d_c (.int 1) pe_int)) p_none) a_nil)))))))
      (ss_one (s_ret hk (d_c (.bl true) pe_bl)))))
theorem dv__law_mixed {P : Program} {w : World} {K : PySem.W.Frag} {mg : Str → Option Value} {base : Heap} {f : Addr} {cdv : Value} {A : Around} {out : List Env} {s0 : Shared} {H : Hp} {E : XK} {b : Bas} {k : Nat} {ks : List Nat} (zb : Blts mg base) (hk : b.kp.map (·.1) = ks) (room : Room k (A.deeper (envOfC "_law_mixed" (defScope s__law_mixed) s0.heap.objs.size f cdv))) (grd : (A.deeper (envOfC "_law_mixed" (defScope s__law_mixed) s0.heap.objs.size f cdv)).guards = some []) :
    PSsD (cxOf CX0 P w K mg base n__law_mixed "_law_mixed" (defScope s__law_mixed) f cdv A out s0 H E).nox b (defBody s__law_mixed) (rd__law_mixed ks) :=
  (ss_cons (s_set (i := 2) hk sc__law_mixed.nd rfl (.inl rfl) (d_c (.int 2305843009213693951) pe_int))
      (ss_cons (s_set (i := 3) hk sc__law_mixed.nd rfl (.inl rfl) (d_op op_mod o_mod (d_op op_add3 o_add3 (d_op op_add3 o_add3 (d_op op_mulA o_mulA (d_var 0 (pv 0)) (d_c (.int 1181783497276652981) pe_int)) (d_op op_mulA o_mulA (d_var 1 (pv 1)) (d_c (.int 2685821657736338717) pe_int))) (d_c (.int 41) pe_int)) (d_var 2 (pv 2))))
      (ss_cons (s_for PassesOwn.never rfl (i_range1 rfl zb.range (a_cons (d_c (.int 4) pe_int) a_nil)) (g_name (i := 4) hk sc__law_mixed.nd rfl (.inl rfl)) (ss_one (s_set (i := 3) hk sc__law_mixed.nd rfl (.inl rfl) (d_op op_mod o_mod (d_op op_add3 o_add3 (d_op op_add3 o_add3 (d_op op_add3 o_add3 (d_op op_mulA o_mulA (d_var 3 (pv 3)) (d_var 3 (pv 3))) (d_op op_mulA o_mulA (d_c (.int 29) pe_int) (d_var 3 (pv 3)))) (d_op op_mulA o_mulA (d_c (.int 4001) pe_int) (d_var 4 (pv 4)))) (d_var 1 (pv 1))) (d_var 2 (pv 2))))))
      (ss_one (s_ret hk (d_op op_add3 o_add3 (d_op op_mulA o_mulA (d_var 3 (pv 3)) (d_var 2 (pv 2))) (d_op op_mod o_mod (d_op op_add3 o_add3 (d_op op_mulA o_mulA (d_var 3 (pv 3)) (d_c (.int 48271) pe_int)) (d_var 1 (pv 1))) (d_var 2 (pv 2)))))))))
theorem dv__law_deck_of {P : Program} {w : World} {K : PySem.W.Frag} {mg : Str → Option Value} {base : Heap} {f : Addr} {cdv : Value} {A : Around} {out : List Env} {s0 : Shared} {H : Hp} {E : XK} {b : Bas} {k : Nat} {ks : List Nat} (zb : Blts mg base) (hk : b.kp.map (·.1) = ks) (room : Room k (A.deeper (envOfC "_law_deck_of" (defScope s__law_deck_of) s0.heap.objs.size f cdv))) (grd : (A.deeper (envOfC "_law_deck_of" (defScope s__law_deck_of) s0.heap.objs.size f cdv)).guards = some []) :
    PSsD (cxOf CX0 P w K mg base n__law_deck_of "_law_deck_of" (defScope s__law_deck_of) f cdv A out s0 H E).nox b (defBody s__law_deck_of) (rd__law_deck_of ks) :=
  (ss_cons (s_setLc (i := 2) (own := [("cell", 1)]) hk (by decide) rfl sc__law_deck_of.nd rfl rfl rfl (i_seq hk (d_sl sl_any o_sl (d_var 0 (pv 0)) p_none (p_some (d_c (.int 16) pe_int)))) (blk_ok (N := n__law_deck_of) (sc := defScope s__law_deck_of) (by decide +kernel)) (fun s H C cl fp => (g_name (i := 1) hk sc__law_deck_of.nd rfl (.inl rfl))) (fun s H C cl fp => ts_nil) (fun s H C cl fp => (d_b call_abs b_abs rfl zb.abs bt_abs (a_cons (d_var 1 (pv 1)) a_nil))))
      (ss_cons (s_for PassesOwn.never rfl (i_enum hk rfl zb.enumerate (a_cons (d_sl sl_any o_sl (d_var 0 (pv 0)) (p_some (d_c (.int 16) pe_int)) (p_some (d_c (.int 63) pe_int))) a_nil)) (g_tup rfl (gs_cons (g_name (i := 3) hk sc__law_deck_of.nd rfl (.inl rfl)) (gs_cons (g_name (i := 1) hk sc__law_deck_of.nd rfl (.inl rfl)) gs_nil))) (ss_one (s_put (i := 2) hk (pv 2) (d_op op_mod o_mod (d_var 3 (pv 3)) (d_c (.int 16) pe_int)) (d_op op_add3 o_add3 (d_ix ix_seq o_ix (d_var 2 (pv 2)) (d_op op_mod o_mod (d_var 3 (pv 3)) (d_c (.int 16) pe_int))) (d_b call_abs b_abs rfl zb.abs bt_abs (a_cons (d_var 1 (pv 1)) a_nil))))))
      (ss_one (s_ret hk (d_lst hk (a_cons (d_var 2 (pv 2)) (a_cons (d_c (.int 0) pe_int) (a_cons (d_c (.int 0) pe_int) (a_cons (d_c (.int 0) pe_int) a_nil)))))))))
theorem dv__law_below {P : Program} {w : World} {K : PySem.W.Frag} {mg : Str → Option Value} {base : Heap} {f : Addr} {cdv : Value} {A : Around} {out : List Env} {s0 : Shared} {H : Hp} {E : XK} {b : Bas} {k : Nat} {ks : List Nat} (zb : Blts mg base) (hk : b.kp.map (·.1) = ks) (room : Room k (A.deeper (envOfC "_law_below" (defScope s__law_below) s0.heap.objs.size f cdv))) (grd : (A.deeper (envOfC "_law_below" (defScope s__law_below) s0.heap.objs.size f cdv)).guards = some []) {sp__law_mixed : DSp} {k__law_mixed : Nat} (c__law_mixed : KnownP P w K mg base k__law_mixed "_law_mixed" sp__law_mixed) (h__law_mixed : k__law_mixed ≤ k) :
    PSsD (cxOf CX0 P w K mg base n__law_below "_law_below" (defScope s__law_below) f cdv A out s0 H E).nox b (defBody s__law_below) (rd__law_below ks sp__law_mixed) :=
  (ss_cons (s_if (t_cmp op_lt o_lt (d_ix ix_seq o_ix (d_var 0 (pv 0)) (d_c (.int 3) pe_int)) (d_var 1 (pv 1)) rfl) (ss_cons (s_par2 (i := 2) (j := 3) hk rfl sc__law_below.nd rfl rfl (by decide) rfl rfl (a_cons (d_ix ix_seq o_ix (d_var 0 (pv 0)) (d_c (.int 0) pe_int)) (a_cons (d_ix ix_seq o_ix (d_var 0 (pv 0)) (d_c (.int 1) pe_int)) a_nil)) rfl)
      (ss_cons (s_set (i := 4) hk sc__law_below.nd rfl (.inl rfl) (d_if (t_cmp (op_neA (u64 room)) o_eqA (d_var 2 (pv 2)) (d_lst hk a_nil) rfl) (d_ix ix_seq o_ix (d_var 2 (pv 2)) (d_op op_mod o_mod (d_var 3 (pv 3)) (d_b call_len b_len rfl zb.len bt_len (a_cons (d_var 2 (pv 2)) a_nil)))) (d_c (.int 0) pe_int)))
      (ss_cons (s_if (t_w (tw_or (t_cmp op_ge o_ge (d_var 3 (pv 3)) (d_b call_len b_len rfl zb.len bt_len (a_cons (d_var 2 (pv 2)) a_nil)) rfl) (tw_or1 (t_cmp op_lt o_lt (d_var 4 (pv 4)) (d_op op_pow o_pow (d_c (.int 10) pe_int) (d_c (.int 16) pe_int)) rfl)))) (ss_one (s_set (i := 4) hk sc__law_below.nd rfl (.inl rfl) (d_callP hk c__law_mixed (room.mono h__law_mixed) grd rfl (a_cons (d_op op_mod o_mod (d_ty call_int1 b_int rfl zb.int bt_int (a_cons (d_var 4 (pv 4)) a_nil)) (d_c (.int 998244353) pe_int)) (a_cons (d_var 3 (pv 3)) a_nil))))) ss_nil)
      (ss_cons (s_put (i := 0) hk (pv 0) (d_c (.int 1) pe_int) (d_op op_add3 o_add3 (d_var 3 (pv 3)) (d_c (.int 1) pe_int)))
      (ss_cons (s_put (i := 0) hk (pv 0) (d_c (.int 2) pe_int) (d_var 4 (pv 4)))
      (ss_one (s_put (i := 0) hk (pv 0) (d_c (.int 3) pe_int) (d_var 4 (pv 4))))))))) ss_nil)
      (ss_cons (s_set (i := 5) hk sc__law_below.nd rfl (.inl rfl) (d_op op_mod o_mod (d_ty call_int1 b_int rfl zb.int bt_int (a_cons (d_ix ix_seq o_ix (d_var 0 (pv 0)) (d_c (.int 2) pe_int)) a_nil)) (d_var 1 (pv 1))))
      (ss_cons (s_put (i := 0) hk (pv 0) (d_c (.int 2) pe_int) (d_op op_fdivW o_div (d_ix ix_seq o_ix (d_var 0 (pv 0)) (d_c (.int 2) pe_int)) (d_var 1 (pv 1))))
      (ss_cons (s_put (i := 0) hk (pv 0) (d_c (.int 3) pe_int) (d_op op_fdivW o_div (d_ix ix_seq o_ix (d_var 0 (pv 0)) (d_c (.int 3) pe_int)) (d_var 1 (pv 1))))
      (ss_one (s_ret hk (d_var 5 (pv 5))))))))
theorem dv__law_pick {P : Program} {w : World} {K : PySem.W.Frag} {mg : Str → Option Value} {base : Heap} {f : Addr} {cdv : Value} {A : Around} {out : List Env} {s0 : Shared} {H : Hp} {E : XK} {b : Bas} {k : Nat} {ks : List Nat} (zb : Blts mg base) (hk : b.kp.map (·.1) = ks) (room : Room k (A.deeper (envOfC "_law_pick" (defScope s__law_pick) s0.heap.objs.size f cdv))) (grd : (A.deeper (envOfC "_law_pick" (defScope s__law_pick) s0.heap.objs.size f cdv)).guards = some []) {sp__law_below : DSp} {k__law_below : Nat} (c__law_below : KnownP P w K mg base k__law_below "_law_below" sp__law_below) (h__law_below : k__law_below ≤ k) :
    PSsD (cxOf CX0 P w K mg base n__law_pick "_law_pick" (defScope s__law_pick) f cdv A out s0 H E).nox b (defBody s__law_pick) (rd__law_pick ks sp__law_below) :=
  (ss_one (s_ret hk (d_ix ix_seq o_ix (d_var 1 (pv 1)) (d_callRP hk c__law_below (room.mono h__law_below) grd rfl (a_cons (d_var 0 (pv 0)) (a_cons (d_b call_len b_len rfl zb.len bt_len (a_cons (d_var 1 (pv 1)) a_nil)) a_nil))))))
theorem dv__law_some_kind {P : Program} {w : World} {K : PySem.W.Frag} {mg : Str → Option Value} {base : Heap} {f : Addr} {cdv : Value} {A : Around} {out : List Env} {s0 : Shared} {H : Hp} {E : XK} {b : Bas} {k : Nat} {ks : List Nat} (zb : Blts mg base) (hk : b.kp.map (·.1) = ks) (room : Room k (A.deeper (envOfC "_law_some_kind" (defScope s__law_some_kind) s0.heap.objs.size f cdv))) (grd : (A.deeper (envOfC "_law_some_kind" (defScope s__law_some_kind) s0.heap.objs.size f cdv)).guards = some []) {sp__law_below : DSp} {k__law_below : Nat} (c__law_below : KnownP P w K mg base k__law_below "_law_below" sp__law_below) (h__law_below : k__law_below ≤ k) {sp__law_pick : DSp} {k__law_pick : Nat} (c__law_pick : KnownP P w K mg base k__law_pick "_law_pick" sp__law_pick) (h__law_pick : k__law_pick ≤ k) :
    PSsD (cxOf CX0 P w K mg base n__law_some_kind "_law_some_kind" (defScope s__law_some_kind) f cdv A out s0 H E).nox b (defBody s__law_some_kind) (rd__law_some_kind ks sp__law_below sp__law_pick) :=
  (ss_cons (s_set (i := 2) hk sc__law_some_kind.nd rfl (.inl rfl) (d_lst hk (a_cons (d_c (.int 0) pe_int) (a_cons (d_callRP hk c__law_pick (room.mono h__law_pick) grd rfl (a_cons (d_var 0 (pv 0)) (a_cons (d_lst hk (a_cons (d_c (.int 2) pe_int) (a_cons (d_c (.int 2) pe_int) (a_cons (d_c (.int 2) pe_int) (a_cons (d_c (.int 3) pe_int) (a_cons (d_c (.int 4) pe_int) a_nil)))))) a_nil))) a_nil))))
      (ss_cons (s_for PassesOwn.never rfl (i_range1 rfl zb.range (a_cons (d_callRP hk c__law_below (room.mono h__law_below) grd rfl (a_cons (d_var 0 (pv 0)) (a_cons (d_op op_sub o_sub (d_var 1 (pv 1)) (d_c (.int 1) pe_int)) a_nil))) a_nil)) (g_name (i := 3) hk sc__law_some_kind.nd rfl (.inl rfl)) (ss_one (s_expr (d_mut (i := 2) hk m_append mt_append F.plainAttrs_list F.slot_list_append F.type_list_append (pv 2) (a_cons (d_callRP hk c__law_pick (room.mono h__law_pick) grd rfl (a_cons (d_var 0 (pv 0)) (a_cons (d_lst hk (a_cons (d_c (.int 0) pe_int) (a_cons (d_c (.int 0) pe_int) (a_cons (d_c (.int 1) pe_int) (a_cons (d_c (.int 1) pe_int) (a_cons (d_c (.int 2) pe_int) (a_cons (d_c (.int 3) pe_int) (a_cons (d_c (.int 4) pe_int) a_nil)))))))) a_nil))) a_nil)))))
      (ss_cons (s_par2 (i := 4) (j := 5) hk rfl sc__law_some_kind.nd rfl rfl (by decide) rfl rfl (a_cons (d_lst hk (a_cons (d_c (.str "leaf") pe_str) (a_cons (d_c (.str "join") pe_str) (a_cons (d_c (.str "a") pe_str) (a_cons (d_c (.str "z9") pe_str) (a_cons (d_c (.str "node") pe_str) (a_cons (d_c (.str "b2b") pe_str) (a_cons (d_c (.str "tip") pe_str) (a_cons (d_c (.str "eightabc") pe_str) a_nil))))))))) (a_cons (d_lst hk a_nil) a_nil)) rfl)
      (ss_cons (s_while PassesOwn.never (t_cmp (op_neA (u64 room)) o_eqA (d_var 2 (pv 2)) (d_lst hk a_nil) rfl) (ss_cons (s_set (i := 6) hk sc__law_some_kind.nd rfl (.inl rfl) (d_mut (i := 4) hk m_popAt mt_popAt F.plainAttrs_list F.slot_list_pop F.type_list_pop (pv 4) (a_cons (d_callRP hk c__law_below (room.mono h__law_below) grd rfl (a_cons (d_var 0 (pv 0)) (a_cons (d_b call_len b_len rfl zb.len bt_len (a_cons (d_var 4 (pv 4)) a_nil)) a_nil))) a_nil)))
      (ss_one (s_expr (d_mut (i := 5) hk m_append mt_append F.plainAttrs_list F.slot_list_append F.type_list_append (pv 5) (a_cons (d_tup hk (a_cons (d_var 6 (pv 6)) (a_cons (d_mut (i := 2) hk m_popAt mt_popAt F.plainAttrs_list F.slot_list_pop F.type_list_pop (pv 2) (a_cons (d_callRP hk c__law_below (room.mono h__law_below) grd rfl (a_cons (d_var 0 (pv 0)) (a_cons (d_b call_len b_len rfl zb.len bt_len (a_cons (d_var 2 (pv 2)) a_nil)) a_nil))) a_nil)) a_nil))) a_nil))))))
      (ss_one (s_ret hk (d_ty call_tupP b_tupOf rfl zb.tuple bt_tuple (a_cons (d_var 5 (pv 5)) a_nil))))))))
theorem dv__law_some_tree {P : Program} {w : World} {K : PySem.W.Frag} {mg : Str → Option Value} {base : Heap} {f : Addr} {cdv : Value} {A : Around} {out : List Env} {s0 : Shared} {H : Hp} {E : XK} {b : Bas} {k : Nat} {ks : List Nat} (zb : Blts mg base) (hk : b.kp.map (·.1) = ks) (room : Room k (A.deeper (envOfC "_law_some_tree" (defScope s__law_some_tree) s0.heap.objs.size f cdv))) (grd : (A.deeper (envOfC "_law_some_tree" (defScope s__law_some_tree) s0.heap.objs.size f cdv)).guards = some []) {sp__law_some_tree : DSp} {k__law_some_tree : Nat} (c__law_some_tree : KnownP P w K mg base k__law_some_tree "_law_some_tree" sp__law_some_tree) (h__law_some_tree : k__law_some_tree ≤ k) {sp__law_pick : DSp} {k__law_pick : Nat} (c__law_pick : KnownP P w K mg base k__law_pick "_law_pick" sp__law_pick) (h__law_pick : k__law_pick ≤ k) :
    PSsD (cxOf CX0 P w K mg base n__law_some_tree "_law_some_tree" (defScope s__law_some_tree) f cdv A out s0 H E).nox b (defBody s__law_some_tree) (rd__law_some_tree ks sp__law_some_tree sp__law_pick) :=
  (ss_cons (s_setLc (i := 3) (own := [("pair", 6)]) hk (by decide) rfl sc__law_some_tree.nd rfl rfl rfl (i_seq hk (d_var 1 (pv 1))) (blk_ok (N := n__law_some_tree) (sc := defScope s__law_some_tree) (by decide +kernel)) (fun s H C cl fp => (g_name (i := 6) hk sc__law_some_tree.nd rfl (.inl rfl))) (fun s H C cl fp => (ts_one (t_w (tw_or (t_cmp (op_eqA (u64 room)) o_eqA (d_ix ix_seq o_ix (d_var 6 (pv 6)) (d_c (.int 1) pe_int)) (d_c (.int 0) pe_int) rfl) (tw_or1 (t_cmp op_gt o_gt (d_var 2 (pv 2)) (d_c (.int 0) pe_int) rfl)))))) (fun s H C cl fp => (d_var 6 (pv 6))))
      (ss_cons (s_unp hk (d_callRP hk c__law_pick (room.mono h__law_pick) grd rfl (a_cons (d_var 0 (pv 0)) (a_cons (d_var 3 (pv 3)) a_nil))) (g_tup rfl (gs_cons (g_name (i := 4) hk sc__law_some_tree.nd rfl (.inl rfl)) (gs_cons (g_name (i := 5) hk sc__law_some_tree.nd rfl (.inl rfl)) gs_nil))))
      (ss_one (s_ret hk (d_op op_add3 o_add3 (d_tup hk (a_cons (d_var 4 (pv 4)) a_nil)) (d_ty call_tupP b_tupOf rfl zb.tuple bt_tuple (a_cons (d_lc (own := [("part", 7)]) hk (by decide) rfl sc__law_some_tree.nd (i_range1 rfl zb.range (a_cons (d_var 5 (pv 5)) a_nil)) (blk_ok (N := n__law_some_tree) (sc := defScope s__law_some_tree) (by decide +kernel)) (fun s H C cl fp => (g_name (i := 7) hk sc__law_some_tree.nd rfl (.inl rfl))) (fun s H C cl fp => ts_nil) (fun s H C cl fp => (d_callRP hk c__law_some_tree (room.mono h__law_some_tree) grd rfl (a_cons (d_var 0 (pv 0)) (a_cons (d_var 1 (pv 1)) (a_cons (d_op op_sub o_sub (d_var 2 (pv 2)) (d_c (.int 1) pe_int)) a_nil)))))) a_nil)))))))
theorem dv__law_is_tree {P : Program} {w : World} {K : PySem.W.Frag} {mg : Str → Option Value} {base : Heap} {f : Addr} {cdv : Value} {A : Around} {out : List Env} {s0 : Shared} {H : Hp} {E : XK} {b : Bas} {k : Nat} {ks : List Nat} (zb : Blts mg base) (hk : b.kp.map (·.1) = ks) (room : Room k (A.deeper (envOfC "_law_is_tree" (defScope s__law_is_tree) s0.heap.objs.size f cdv))) (grd : (A.deeper (envOfC "_law_is_tree" (defScope s__law_is_tree) s0.heap.objs.size f cdv)).guards = some []) {sp__law_is_tree : DSp} {k__law_is_tree : Nat} (c__law_is_tree : KnownP P w K mg base k__law_is_tree "_law_is_tree" sp__law_is_tree) (h__law_is_tree : k__law_is_tree ≤ k) :
    PSsD (cxOf CX0 P w K mg base n__law_is_tree "_law_is_tree" (defScope s__law_is_tree) f cdv A out s0 H E).nox b (defBody s__law_is_tree) (rd__law_is_tree ks sp__law_is_tree) :=
  (ss_cons (s_if (t_w (tw_or (t_not (t_tr (d_b call_isi b_isi rfl zb.isinstance bt_isinstance (a_cons (d_var 1 (pv 1)) (a_cons (d_tyN rfl zb.tuple bt_tuple) a_nil))))) (tw_or (t_cmp (op_eqA (u64 room)) o_eqA (d_b call_len b_len rfl zb.len bt_len (a_cons (d_var 1 (pv 1)) a_nil)) (d_c (.int 0) pe_int) rfl) (tw_or1 (t_not (t_tr (d_b call_isi b_isi rfl zb.isinstance bt_isinstance (a_cons (d_ix ix_seq o_ix (d_var 1 (pv 1)) (d_c (.int 0) pe_int)) (a_cons (d_tyN rfl zb.str bt_str) a_nil))))))))) (ss_one (s_ret hk (d_c (.bl false) pe_bl))) ss_nil)
      (ss_cons (s_if (t_cmp (op_eqA (u64 room)) o_eqA (d_lc (own := [("pair", 2)]) hk (by decide) rfl sc__law_is_tree.nd (i_seq hk (d_var 0 (pv 0))) (blk_ok (N := n__law_is_tree) (sc := defScope s__law_is_tree) (by decide +kernel)) (fun s H C cl fp => (g_name (i := 2) hk sc__law_is_tree.nd rfl (.inl rfl))) (fun s H C cl fp => (ts_one (t_cmp (op_eqA (u64 room)) o_eqA (d_var 2 (pv 2)) (d_tup hk (a_cons (d_ix ix_seq o_ix (d_var 1 (pv 1)) (d_c (.int 0) pe_int)) (a_cons (d_op op_sub o_sub (d_b call_len b_len rfl zb.len bt_len (a_cons (d_var 1 (pv 1)) a_nil)) (d_c (.int 1) pe_int)) a_nil))) rfl))) (fun s H C cl fp => (d_var 2 (pv 2)))) (d_lst hk a_nil) rfl) (ss_one (s_ret hk (d_c (.bl false) pe_bl))) ss_nil)
      (ss_one (s_ret hk (d_cmp (op_notInP (u66 room)) o_in (d_c (.bl false) pe_bl) (d_lc (own := [("part", 3)]) hk (by decide) rfl sc__law_is_tree.nd (i_seq hk (d_sl sl_any o_sl (d_var 1 (pv 1)) (p_some (d_c (.int 1) pe_int)) p_none)) (blk_ok (N := n__law_is_tree) (sc := defScope s__law_is_tree) (by decide +kernel)) (fun s H C cl fp => (g_name (i := 3) hk sc__law_is_tree.nd rfl (.inl rfl))) (fun s H C cl fp => ts_nil) (fun s H C cl fp => (d_callP hk c__law_is_tree (room.mono h__law_is_tree) grd rfl (a_cons (d_var 0 (pv 0)) (a_cons (d_var 3 (pv 3)) a_nil))))) rfl)))))
theorem dv__law_leaning {P : Program} {w : World} {K : PySem.W.Frag} {mg : Str → Option Value} {base : Heap} {f : Addr} {cdv : Value} {A : Around} {out : List Env} {s0 : Shared} {H : Hp} {E : XK} {b : Bas} {k : Nat} {ks : List Nat} (zb : Blts mg base) (hk : b.kp.map (·.1) = ks) (room : Room k (A.deeper (envOfC "_law_leaning" (defScope s__law_leaning) s0.heap.objs.size f cdv))) (grd : (A.deeper (envOfC "_law_leaning" (defScope s__law_leaning) s0.heap.objs.size f cdv)).guards = some []) {sp__law_pick : DSp} {k__law_pick : Nat} (c__law_pick : KnownP P w K mg base k__law_pick "_law_pick" sp__law_pick) (h__law_pick : k__law_pick ≤ k) {sp__law_below : DSp} {k__law_below : Nat} (c__law_below : KnownP P w K mg base k__law_below "_law_below" sp__law_below) (h__law_below : k__law_below ≤ k) :
    PSsD (cxOf CX0 P w K mg base n__law_leaning "_law_leaning" (defScope s__law_leaning) f cdv A out s0 H E).nox b (defBody s__law_leaning) (rd__law_leaning ks sp__law_pick sp__law_below) :=
  (ss_cons (s_setLc (i := 5) (own := [("tag", 3), ("parts", 4)]) hk (by decide) rfl sc__law_leaning.nd rfl rfl rfl (i_seq hk (d_var 1 (pv 1))) (blk_ok (N := n__law_leaning) (sc := defScope s__law_leaning) (by decide +kernel)) (fun s H C cl fp => (g_tup rfl (gs_cons (g_name (i := 3) hk sc__law_leaning.nd rfl (.inl rfl)) (gs_cons (g_name (i := 4) hk sc__law_leaning.nd rfl (.inl rfl)) gs_nil)))) (fun s H C cl fp => (ts_one (t_cmp (op_eqA (u64 room)) o_eqA (d_var 4 (pv 4)) (d_c (.int 0) pe_int) rfl))) (fun s H C cl fp => (d_tup hk (a_cons (d_var 3 (pv 3)) a_nil))))
      (ss_cons (s_set (i := 6) hk sc__law_leaning.nd rfl (.inl rfl) (d_callRP hk c__law_pick (room.mono h__law_pick) grd rfl (a_cons (d_var 0 (pv 0)) (a_cons (d_var 5 (pv 5)) a_nil))))
      (ss_cons (s_for PassesOwn.never rfl (i_range1 rfl zb.range (a_cons (d_var 2 (pv 2)) a_nil)) (g_name (i := 7) hk sc__law_leaning.nd rfl (.inl rfl)) (ss_cons (s_unp hk (d_callRP hk c__law_pick (room.mono h__law_pick) grd rfl (a_cons (d_var 0 (pv 0)) (a_cons (d_lc (own := [("pair", 9)]) hk (by decide) rfl sc__law_leaning.nd (i_seq hk (d_var 1 (pv 1))) (blk_ok (N := n__law_leaning) (sc := defScope s__law_leaning) (by decide +kernel)) (fun s H C cl fp => (g_name (i := 9) hk sc__law_leaning.nd rfl (.inl rfl))) (fun s H C cl fp => (ts_one (t_cmp op_gt o_gt (d_ix ix_seq o_ix (d_var 9 (pv 9)) (d_c (.int 1) pe_int)) (d_c (.int 0) pe_int) rfl))) (fun s H C cl fp => (d_var 9 (pv 9)))) a_nil))) (g_tup rfl (gs_cons (g_name (i := 3) hk sc__law_leaning.nd rfl (.inl rfl)) (gs_cons (g_name (i := 4) hk sc__law_leaning.nd rfl (.inl rfl)) gs_nil))))
      (ss_cons (s_set (i := 8) hk sc__law_leaning.nd rfl (.inl rfl) (d_callRP hk c__law_below (room.mono h__law_below) grd rfl (a_cons (d_var 0 (pv 0)) (a_cons (d_var 4 (pv 4)) a_nil))))
      (ss_one (s_set (i := 6) hk sc__law_leaning.nd rfl (.inl rfl) (d_op op_add3 o_add3 (d_op op_add3 o_add3 (d_op op_add3 o_add3 (d_tup hk (a_cons (d_var 3 (pv 3)) a_nil)) (d_op op_mulA o_mulA (d_tup hk (a_cons (d_callRP hk c__law_pick (room.mono h__law_pick) grd rfl (a_cons (d_var 0 (pv 0)) (a_cons (d_var 5 (pv 5)) a_nil))) a_nil)) (d_var 8 (pv 8)))) (d_tup hk (a_cons (d_var 6 (pv 6)) a_nil))) (d_op op_mulA o_mulA (d_tup hk (a_cons (d_ix ix_seq o_ix (d_var 5 (pv 5)) (d_c (.int 0) pe_int)) a_nil)) (d_op op_sub o_sub (d_op op_sub o_sub (d_var 4 (pv 4)) (d_c (.int 1) pe_int)) (d_var 8 (pv 8))))))))))
      (ss_one (s_ret hk (d_var 6 (pv 6)))))))
theorem dv__law_bent {P : Program} {w : World} {K : PySem.W.Frag} {mg : Str → Option Value} {base : Heap} {f : Addr} {cdv : Value} {A : Around} {out : List Env} {s0 : Shared} {H : Hp} {E : XK} {b : Bas} {k : Nat} {ks : List Nat} (zb : Blts mg base) (hk : b.kp.map (·.1) = ks) (room : Room k (A.deeper (envOfC "_law_bent" (defScope s__law_bent) s0.heap.objs.size f cdv))) (grd : (A.deeper (envOfC "_law_bent" (defScope s__law_bent) s0.heap.objs.size f cdv)).guards = some []) {sp__law_pick : DSp} {k__law_pick : Nat} (c__law_pick : KnownP P w K mg base k__law_pick "_law_pick" sp__law_pick) (h__law_pick : k__law_pick ≤ k) {sp__law_below : DSp} {k__law_below : Nat} (c__law_below : KnownP P w K mg base k__law_below "_law_below" sp__law_below) (h__law_below : k__law_below ≤ k) {sp__law_bent : DSp} {k__law_bent : Nat} (c__law_bent : KnownP P w K mg base k__law_bent "_law_bent" sp__law_bent) (h__law_bent : k__law_bent ≤ k) :
    PSsD (cxOf CX0 P w K mg base n__law_bent "_law_bent" (defScope s__law_bent) f cdv A out s0 H E).nox b (defBody s__law_bent) (rd__law_bent ks sp__law_pick sp__law_below sp__law_bent) :=
  (ss_cons (s_if (t_w (tw_and (t_cmp op_gt o_gt (d_b call_len b_len rfl zb.len bt_len (a_cons (d_var 2 (pv 2)) a_nil)) (d_c (.int 1) pe_int) rfl) (tw_and1 (t_cmp op_gt o_gt (d_callRP hk c__law_below (room.mono h__law_below) grd rfl (a_cons (d_var 0 (pv 0)) (a_cons (d_c (.int 3) pe_int) a_nil))) (d_c (.int 0) pe_int) rfl)))) (ss_cons (s_set (i := 3) hk sc__law_bent.nd rfl (.inl rfl) (d_op op_add3 o_add3 (d_c (.int 1) pe_int) (d_callRP hk c__law_below (room.mono h__law_below) grd rfl (a_cons (d_var 0 (pv 0)) (a_cons (d_op op_sub o_sub (d_b call_len b_len rfl zb.len bt_len (a_cons (d_var 2 (pv 2)) a_nil)) (d_c (.int 1) pe_int)) a_nil)))))
      (ss_one (s_ret hk (d_op op_add3 o_add3 (d_op op_add3 o_add3 (d_sl sl_any o_sl (d_var 2 (pv 2)) p_none (p_some (d_var 3 (pv 3)))) (d_tup hk (a_cons (d_callRP hk c__law_bent (room.mono h__law_bent) grd rfl (a_cons (d_var 0 (pv 0)) (a_cons (d_var 1 (pv 1)) (a_cons (d_ix ix_seq o_ix (d_var 2 (pv 2)) (d_var 3 (pv 3))) a_nil)))) a_nil))) (d_sl sl_any o_sl (d_var 2 (pv 2)) (p_some (d_op op_add3 o_add3 (d_var 3 (pv 3)) (d_c (.int 1) pe_int))) p_none))))) ss_nil)
      (ss_cons (s_par2 (i := 4) (j := 5) hk rfl sc__law_bent.nd rfl rfl (by decide) rfl rfl (a_cons (d_ix ix_seq o_ix (d_var 2 (pv 2)) (d_c (.int 0) pe_int)) (a_cons (d_sl sl_any o_sl (d_var 2 (pv 2)) (p_some (d_c (.int 1) pe_int)) p_none) a_nil)) rfl)
      (ss_cons (s_set (i := 6) hk sc__law_bent.nd rfl (.inl rfl) (d_ix ix_seq o_ix (d_lc (own := [("pair", 8)]) hk (by decide) rfl sc__law_bent.nd (i_seq hk (d_var 1 (pv 1))) (blk_ok (N := n__law_bent) (sc := defScope s__law_bent) (by decide +kernel)) (fun s H C cl fp => (g_name (i := 8) hk sc__law_bent.nd rfl (.inl rfl))) (fun s H C cl fp => (ts_one (t_cmp (op_eqA (u64 room)) o_eqA (d_ix ix_seq o_ix (d_var 8 (pv 8)) (d_c (.int 1) pe_int)) (d_c (.int 0) pe_int) rfl))) (fun s H C cl fp => (d_tup hk (a_cons (d_ix ix_seq o_ix (d_var 8 (pv 8)) (d_c (.int 0) pe_int)) a_nil)))) (d_c (.int 0) pe_int)))
      (ss_cons (s_set (i := 7) hk sc__law_bent.nd rfl (.inl rfl) (d_lst hk (a_cons (d_op op_add3 o_add3 (d_tup hk (a_cons (d_op op_add3 o_add3 (d_var 4 (pv 4)) (d_c (.str "a") pe_str)) a_nil)) (d_var 5 (pv 5))) (a_cons (d_op op_add3 o_add3 (d_tup hk (a_cons (d_var 4 (pv 4)) a_nil)) (d_sl sl_any o_sl (d_var 5 (pv 5)) (p_some (d_c (.int 1) pe_int)) p_none)) (a_cons (d_op op_add3 o_add3 (d_var 2 (pv 2)) (d_tup hk (a_cons (d_var 6 (pv 6)) a_nil))) (a_cons (d_op op_add3 o_add3 (d_lst hk (a_cons (d_var 4 (pv 4)) a_nil)) (d_ty call_list_of b_listOf rfl zb.list bt_list (a_cons (d_var 5 (pv 5)) a_nil))) (a_cons (d_var 4 (pv 4)) (a_cons (d_tup hk a_nil) (a_cons (d_c .non pe_non) (a_cons (d_c (.bl true) pe_bl) (a_cons (d_c (.int 0) pe_int) a_nil)))))))))))
      (ss_cons (s_expr (d_mut (i := 7) hk m_append mt_append F.plainAttrs_list F.slot_list_append F.type_list_append (pv 7) (a_cons (d_tup hk (a_cons (d_var 4 (pv 4)) (a_cons (d_var 6 (pv 6)) a_nil))) a_nil)))
      (ss_cons (s_set (i := 7) hk sc__law_bent.nd rfl (.inl rfl) (d_op op_add3 o_add3 (d_var 7 (pv 7)) (d_lst hk (a_cons (d_tup hk (a_cons (d_var 5 (pv 5)) (a_cons (d_var 4 (pv 4)) a_nil))) (a_cons (d_tup hk (a_cons (d_var 4 (pv 4)) (a_cons (d_var 4 (pv 4)) a_nil))) (a_cons (d_tup hk (a_cons (d_var 4 (pv 4)) (a_cons (d_c .non pe_non) a_nil))) (a_cons (d_op op_add3 o_add3 (d_tup hk (a_cons (d_tup hk (a_cons (d_var 4 (pv 4)) a_nil)) a_nil)) (d_var 5 (pv 5))) (a_cons (d_op op_add3 o_add3 (d_tup hk (a_cons (d_c (.int 1) pe_int) a_nil)) (d_var 5 (pv 5))) (a_cons (d_tup hk (a_cons (d_c .non pe_non) a_nil)) (a_cons (d_tup hk (a_cons (d_c (.str "") pe_str) a_nil)) (a_cons (d_lst hk (a_cons (d_var 2 (pv 2)) a_nil)) (a_cons d_dct0 a_nil))))))))))))
      (ss_cons (s_set (i := 7) hk sc__law_bent.nd rfl (.inl rfl) (d_op op_add3 o_add3 (d_var 7 (pv 7)) (d_lst hk (a_cons (d_op op_add3 o_add3 (d_tup hk (a_cons (d_lst hk (a_cons (d_var 4 (pv 4)) a_nil)) a_nil)) (d_var 5 (pv 5))) (a_cons (d_op op_add3 o_add3 (d_tup hk (a_cons d_dct0 a_nil)) (d_var 5 (pv 5))) a_nil)))))
      (ss_one (s_ret hk (d_callRP hk c__law_pick (room.mono h__law_pick) grd rfl (a_cons (d_var 0 (pv 0)) (a_cons (d_op op_add3 o_add3 (d_var 7 (pv 7)) (d_lst hk (a_cons (d_op op_add3 o_add3 (d_tup hk (a_cons (d_callRP hk c__law_pick (room.mono h__law_pick) grd rfl (a_cons (d_var 0 (pv 0)) (a_cons (d_lc (own := [("pair", 8)]) hk (by decide) rfl sc__law_bent.nd (i_seq hk (d_var 1 (pv 1))) (blk_ok (N := n__law_bent) (sc := defScope s__law_bent) (by decide +kernel)) (fun s H C cl fp => (g_name (i := 8) hk sc__law_bent.nd rfl (.inl rfl))) (fun s H C cl fp => ts_nil) (fun s H C cl fp => (d_ix ix_seq o_ix (d_var 8 (pv 8)) (d_c (.int 0) pe_int)))) a_nil))) a_nil)) (d_var 5 (pv 5))) a_nil))) a_nil))))))))))))
theorem dv__law_tags_of {P : Program} {w : World} {K : PySem.W.Frag} {mg : Str → Option Value} {base : Heap} {f : Addr} {cdv : Value} {A : Around} {out : List Env} {s0 : Shared} {H : Hp} {E : XK} {b : Bas} {k : Nat} {ks : List Nat} (zb : Blts mg base) (hk : b.kp.map (·.1) = ks) (room : Room k (A.deeper (envOfC "_law_tags_of" (defScope s__law_tags_of) s0.heap.objs.size f cdv))) (grd : (A.deeper (envOfC "_law_tags_of" (defScope s__law_tags_of) s0.heap.objs.size f cdv)).guards = some []) :
    PSsD (cxOf CX0 P w K mg base n__law_tags_of "_law_tags_of" (defScope s__law_tags_of) f cdv A out s0 H E).nox b (defBody s__law_tags_of) (rd__law_tags_of ks) :=
  (ss_cons (s_par2 (i := 1) (j := 2) hk rfl sc__law_tags_of.nd rfl rfl (by decide) rfl rfl (a_cons (d_c (.int 0) pe_int) (a_cons (d_lst hk (a_cons (d_var 0 (pv 0)) a_nil)) a_nil)) rfl)
      (ss_cons (s_while PassesOwn.never (t_cmp (op_neA (u64 room)) o_eqA (d_var 2 (pv 2)) (d_lst hk a_nil) rfl) (ss_cons (s_set (i := 3) hk sc__law_tags_of.nd rfl (.inl rfl) (d_mut0 (i := 2) hk m_pop mt_pop F.plainAttrs_list F.slot_list_pop F.type_list_pop (pv 2)))
      (ss_cons (s_set (i := 1) hk sc__law_tags_of.nd rfl (.inl rfl) (d_op op_add3 o_add3 (d_var 1 (pv 1)) (d_c (.int 1) pe_int)))
      (ss_one (s_expr (d_mut (i := 2) hk m_extend mt_extA F.plainAttrs_list F.slot_list_extend F.type_list_extend (pv 2) (a_cons (d_ty call_list_of b_listOf rfl zb.list bt_list (a_cons (d_sl sl_any o_sl (d_var 3 (pv 3)) (p_some (d_c (.int 1) pe_int)) p_none) a_nil)) a_nil)))))))
      (ss_one (s_ret hk (d_var 1 (pv 1))))))
theorem dv_law {P : Program} {w : World} {K : PySem.W.Frag} {mg : Str → Option Value} {base : Heap} {f : Addr} {cdv : Value} {A : Around} {out : List Env} {s0 : Shared} {H : Hp} {E : XK} {b : Bas} {k : Nat} {ks : List Nat} (zb : Blts mg base) (hk : b.kp.map (·.1) = ks) (room : Room k (A.deeper (envOfC "law" (defScope s_law) s0.heap.objs.size f cdv))) (grd : (A.deeper (envOfC "law" (defScope s_law) s0.heap.objs.size f cdv)).guards = some []) {sp_is_tree : DSp} {k_is_tree : Nat} (c_is_tree : KnownP P w K mg base k_is_tree "is_tree" sp_is_tree) (h_is_tree : k_is_tree ≤ k) {sp__law_is_tree : DSp} {k__law_is_tree : Nat} (c__law_is_tree : KnownP P w K mg base k__law_is_tree "_law_is_tree" sp__law_is_tree) (h__law_is_tree : k__law_is_tree ≤ k) {sp__law_bent : DSp} {k__law_bent : Nat} (c__law_bent : KnownP P w K mg base k__law_bent "_law_bent" sp__law_bent) (h__law_bent : k__law_bent ≤ k) {sp_size_of : DSp} {k_size_of : Nat} (c_size_of : KnownP P w K mg base k_size_of "size_of" sp_size_of) (h_size_of : k_size_of ≤ k) {sp__law_tags_of : DSp} {k__law_tags_of : Nat} (c__law_tags_of : KnownP P w K mg base k__law_tags_of "_law_tags_of" sp__law_tags_of) (h__law_tags_of : k__law_tags_of ≤ k) {sp__law_leaning : DSp} {k__law_leaning : Nat} (c__law_leaning : KnownP P w K mg base k__law_leaning "_law_leaning" sp__law_leaning) (h__law_leaning : k__law_leaning ≤ k) {sp__law_below : DSp} {k__law_below : Nat} (c__law_below : KnownP P w K mg base k__law_below "_law_below" sp__law_below) (h__law_below : k__law_below ≤ k) {sp__law_some_tree : DSp} {k__law_some_tree : Nat} (c__law_some_tree : KnownP P w K mg base k__law_some_tree "_law_some_tree" sp__law_some_tree) (h__law_some_tree : k__law_some_tree ≤ k) {sp__law_pick : DSp} {k__law_pick : Nat} (c__law_pick : KnownP P w K mg base k__law_pick "_law_pick" sp__law_pick) (h__law_pick : k__law_pick ≤ k) {sp__law_some_kind : DSp} {k__law_some_kind : Nat} (c__law_some_kind : KnownP P w K mg base k__law_some_kind "_law_some_kind" sp__law_some_kind) (h__law_some_kind : k__law_some_kind ≤ k) {sp__law_deck_of : DSp} {k__law_deck_of : Nat} (c__law_deck_of : KnownP P w K mg base k__law_deck_of "_law_deck_of" sp__law_deck_of) (h__law_deck_of : k__law_deck_of ≤ k) :
    PSsD (cxOf CX0 P w K mg base n_law "law" (defScope s_law) f cdv A out s0 H E).nox b (defBody s_law) (rd_law ks sp_is_tree sp__law_is_tree sp__law_bent sp_size_of sp__law_tags_of sp__law_leaning sp__law_below sp__law_some_tree sp__law_pick sp__law_some_kind sp__law_deck_of) :=
  (ss_cons (s_set (i := 1) hk sc_law.nd rfl (.inl rfl) (d_callP hk c__law_deck_of (room.mono h__law_deck_of) grd rfl (a_cons (d_var 0 (pv 0)) a_nil)))
      (ss_cons (s_for PassesOwn.never rfl (i_range1 rfl zb.range (a_cons (d_c (.int 3) pe_int) a_nil)) (g_name (i := 2) hk sc_law.nd rfl (.inl rfl)) (ss_cons (s_set (i := 3) hk sc_law.nd rfl (.inl rfl) (d_callRP hk c__law_some_kind (room.mono h__law_some_kind) grd rfl (a_cons (d_var 1 (pv 1)) (a_cons (d_callRP hk c__law_pick (room.mono h__law_pick) grd rfl (a_cons (d_var 1 (pv 1)) (a_cons (d_lst hk (a_cons (d_c (.int 2) pe_int) (a_cons (d_c (.int 3) pe_int) (a_cons (d_c (.int 5) pe_int) (a_cons (d_c (.int 8) pe_int) a_nil))))) a_nil))) a_nil))))
      (ss_cons (s_set (i := 4) hk sc_law.nd rfl (.inl rfl) (d_callRP hk c__law_pick (room.mono h__law_pick) grd rfl (a_cons (d_var 1 (pv 1)) (a_cons (d_lst hk (a_cons (d_c (.int 1) pe_int) (a_cons (d_c (.int 7) pe_int) (a_cons (d_c (.int 40) pe_int) (a_cons (d_c (.int 90) pe_int) (a_cons (d_c (.int 390) pe_int) a_nil)))))) a_nil))))
      (ss_cons (s_set (i := 5) hk sc_law.nd rfl (.inl rfl) (d_lst hk (a_cons (d_callRP hk c__law_some_tree (room.mono h__law_some_tree) grd rfl (a_cons (d_var 1 (pv 1)) (a_cons (d_var 3 (pv 3)) (a_cons (d_callRP hk c__law_below (room.mono h__law_below) grd rfl (a_cons (d_var 1 (pv 1)) (a_cons (d_c (.int 4) pe_int) a_nil))) a_nil)))) (a_cons (d_callRP hk c__law_leaning (room.mono h__law_leaning) grd rfl (a_cons (d_var 1 (pv 1)) (a_cons (d_var 3 (pv 3)) (a_cons (d_var 4 (pv 4)) a_nil)))) a_nil))))
      (ss_cons (s_for PassesOwn.never rfl (i_seq hk (d_var 5 (pv 5))) (g_name (i := 6) hk sc_law.nd rfl (.inl rfl)) (ss_cons (s_set (i := 7) hk sc_law.nd rfl (.inl rfl) (d_callP hk c__law_tags_of (room.mono h__law_tags_of) grd rfl (a_cons (d_var 6 (pv 6)) a_nil)))
      (ss_cons (s_if (t_w (tw_or (t_cmp op_notA o_is (d_callP hk c_is_tree (room.mono h_is_tree) grd rfl (a_cons (d_var 3 (pv 3)) (a_cons (d_var 6 (pv 6)) a_nil))) (d_c (.bl true) pe_bl) rfl) (tw_or1 (t_w (tw_and (t_cmp op_le o_le (d_var 7 (pv 7)) (d_c (.int 400) pe_int) rfl) (tw_and1 (t_cmp (op_neA (u64 room)) o_eqA (d_callP hk c_size_of (room.mono h_size_of) grd rfl (a_cons (d_var 6 (pv 6)) a_nil)) (d_var 7 (pv 7)) rfl))))))) (ss_one (s_ret hk (d_c (.bl false) pe_bl))) ss_nil)
      (ss_one (s_if (t_cmp (op_neA (u64 room)) o_eqA (d_b (cr_repr zb.mods grd (u64 room)) b_repr rfl zb.repr bt_repr (a_cons (d_callP hk c_is_tree (room.mono h_is_tree) grd rfl (a_cons (d_var 3 (pv 3)) (a_cons (d_tup hk (a_cons (d_ix ix_seq o_ix (d_var 6 (pv 6)) (d_c (.int 0) pe_int)) (a_cons (d_var 6 (pv 6)) a_nil))) a_nil))) a_nil)) (d_b (cr_repr zb.mods grd (u64 room)) b_repr rfl zb.repr bt_repr (a_cons (d_cmp (op_inP (u66 room)) o_in (d_tup hk (a_cons (d_ix ix_seq o_ix (d_var 6 (pv 6)) (d_c (.int 0) pe_int)) (a_cons (d_c (.int 1) pe_int) a_nil))) (d_var 3 (pv 3)) rfl) a_nil)) rfl) (ss_one (s_ret hk (d_c (.bl false) pe_bl))) ss_nil)))))
      (ss_cons (s_set (i := 8) hk sc_law.nd rfl (.inl rfl) (d_lst hk (a_cons (d_c .non pe_non) (a_cons (d_c (.bl true) pe_bl) (a_cons (d_c (.int 1) pe_int) (a_cons (d_c (.str "") pe_str) (a_cons (d_ix ix_seq o_ix (d_ix ix_seq o_ix (d_var 3 (pv 3)) (d_c (.int 0) pe_int)) (d_c (.int 0) pe_int)) (a_cons (d_tup hk a_nil) (a_cons (d_lst hk a_nil) (a_cons d_dct0 (a_cons (d_tup hk (a_cons (d_ix ix_seq o_ix (d_ix ix_seq o_ix (d_var 3 (pv 3)) (d_c (.int 0) pe_int)) (d_c (.int 0) pe_int)) a_nil)) (a_cons (d_var 3 (pv 3)) (a_cons (d_ix ix_seq o_ix (d_var 3 (pv 3)) (d_c (.int 0) pe_int)) (a_cons (d_tup hk (a_cons (d_tup hk a_nil) a_nil)) (a_cons (d_tup hk (a_cons (d_c (.str "leaf") pe_str) (a_cons (d_tup hk (a_cons (d_c (.str "leaf") pe_str) a_nil)) a_nil))) a_nil)))))))))))))))
      (ss_cons (s_for PassesOwn.never rfl (i_range1 rfl zb.range (a_cons (d_c (.int 8) pe_int) a_nil)) (g_name (i := 9) hk sc_law.nd rfl (.inl rfl)) (ss_one (s_expr (d_mut (i := 8) hk m_append mt_append F.plainAttrs_list F.slot_list_append F.type_list_append (pv 8) (a_cons (d_callRP hk c__law_bent (room.mono h__law_bent) grd rfl (a_cons (d_var 1 (pv 1)) (a_cons (d_var 3 (pv 3)) (a_cons (d_ix ix_seq o_ix (d_var 5 (pv 5)) (d_c (.int 0) pe_int)) a_nil)))) a_nil)))))
      (ss_cons (s_expr (d_mut (i := 8) hk m_append mt_append F.plainAttrs_list F.slot_list_append F.type_list_append (pv 8) (a_cons (d_if (t_tr (d_callP hk c__law_is_tree (room.mono h__law_is_tree) grd rfl (a_cons (d_var 3 (pv 3)) (a_cons (d_ix ix_seq o_ix (d_var 8 (pv 8)) (d_un un_neg o_neg (d_c (.int 1) pe_int))) a_nil)))) (d_callRP hk c__law_bent (room.mono h__law_bent) grd rfl (a_cons (d_var 1 (pv 1)) (a_cons (d_var 3 (pv 3)) (a_cons (d_ix ix_seq o_ix (d_var 8 (pv 8)) (d_un un_neg o_neg (d_c (.int 1) pe_int))) a_nil)))) (d_tup hk (a_cons (d_ix ix_seq o_ix (d_var 8 (pv 8)) (d_un un_neg o_neg (d_c (.int 1) pe_int))) a_nil))) a_nil)))
      (ss_one (s_for PassesOwn.never rfl (i_seq hk (d_var 8 (pv 8))) (g_name (i := 10) hk sc_law.nd rfl (.inl rfl)) (ss_cons (s_set (i := 11) hk sc_law.nd rfl (.inl rfl) (d_b (cr_repr zb.mods grd (u64 room)) b_repr rfl zb.repr bt_repr (a_cons (d_var 10 (pv 10)) a_nil)))
      (ss_one (s_if (t_w (tw_or (t_cmp (op_neA (u64 room)) o_eqA (d_b (cr_repr zb.mods grd (u64 room)) b_repr rfl zb.repr bt_repr (a_cons (d_callP hk c_is_tree (room.mono h_is_tree) grd rfl (a_cons (d_var 3 (pv 3)) (a_cons (d_var 10 (pv 10)) a_nil))) a_nil)) (d_b (cr_repr zb.mods grd (u64 room)) b_repr rfl zb.repr bt_repr (a_cons (d_callP hk c__law_is_tree (room.mono h__law_is_tree) grd rfl (a_cons (d_var 3 (pv 3)) (a_cons (d_var 10 (pv 10)) a_nil))) a_nil)) rfl) (tw_or1 (t_cmp (op_neA (u64 room)) o_eqA (d_b (cr_repr zb.mods grd (u64 room)) b_repr rfl zb.repr bt_repr (a_cons (d_var 10 (pv 10)) a_nil)) (d_var 11 (pv 11)) rfl)))) (ss_one (s_ret hk (d_c (.bl false) pe_bl))) ss_nil)))))))))))))
      (ss_one (s_ret hk (d_c (.bl true) pe_bl)))))
theorem known {P : Program} {w : World} {K : PySem.W.Frag} {mg : Str → Option Value} {base : Heap} {k : Nat} {x : Str} {st : Stmt} {N ps : List Str} {sp : DSp} {rd : List Nat → SD} (t : AtM K mg x st) (S : FnScope N ps (defScope st)) (p : PL N.length ps.length rd sp) (bd : ∀ (f : Addr) (fd : FuncData), Fun K x x st f fd → Binds K fd ps [])
    (d : ∀ (f : Addr) (cdv : Value) (A : Around) (out : List Env) (s0 : Shared) (H : Hp) (b : Bas) (ks : List Nat) (E : XK), Room k (A.deeper (envOfC x (defScope st) s0.heap.objs.size f cdv)) → (A.deeper (envOfC x (defScope st) s0.heap.objs.size f cdv)).guards = some [] → b.kp.map (·.1) = ks →
      PSsD (cxOf CX0 P w K mg base N x (defScope st) f cdv A out s0 H E).nox b (defBody st) (rd ks)) : KnownP P w K mg base (k + 1) x sp := by
  obtain ⟨f, fd, F, hm, hk⟩ := t.fn
  exact ⟨f, fd, ps, p.fn F S (d f), hm, hk, bd f fd F⟩
theorem vacuous {P : Program} {w : World} {K : PySem.W.Frag} {mg : Str → Option Value} {base : Heap} {k : Nat} {x : Str} {st : Stmt} {ps : List Str} {sp : DSp} (t : AtM K mg x st) (bd : ∀ (f : Addr) (fd : FuncData), Fun K x x st f fd → Binds K fd ps []) (no : ∀ args Q E, ¬ sp args Q E) : KnownP P w K mg base k x sp := by
  obtain ⟨f, fd, F, hm, hk⟩ := t.fn
  refine ⟨f, fd, ps, ⟨fun xs G Q E h => ?_, fun A out s G ar us xs Q E _ _ _ _ _ h => ?_⟩, hm, hk, bd f fd F⟩
  · obtain ⟨_, args, QD, ED, _, _, _, h, _⟩ := h
    exact (no args QD ED h).elim
  · obtain ⟨_, args, QD, ED, _, _, _, h, _⟩ := h
    exact (no args QD ED h).elim
theorem kn_parts_of {P : Program} {w : World} {K : PySem.W.Frag} {mg : Str → Option Value} {base : Heap} (zb : Blts mg base) (t : AtM K mg "parts_of" s_parts_of) : KnownP P w K mg base 1 "parts_of" sp_parts_of :=
  known (k := 0) t sc_parts_of pl_parts_of (fun _ _ F => F.binds (ps := ["kind", "tag"]) fun _ _ _ _ _ _ us hl => match us, hl with | [_, _], _ => rfl) fun f cdv A out s0 H b ks E room grd hk => dv_parts_of zb hk room grd 
theorem kn_nodes_of {P : Program} {w : World} {K : PySem.W.Frag} {mg : Str → Option Value} {base : Heap} (zb : Blts mg base) (t : AtM K mg "nodes_of" s_nodes_of) : KnownP P w K mg base 1 "nodes_of" sp_nodes_of :=
  known (k := 0) t sc_nodes_of pl_nodes_of (fun _ _ F => F.binds (ps := ["tree"]) fun _ _ _ _ _ _ us hl => match us, hl with | [_], _ => rfl) fun f cdv A out s0 H b ks E room grd hk => dv_nodes_of zb hk room grd 
theorem kn_size_of {P : Program} {w : World} {K : PySem.W.Frag} {mg : Str → Option Value} {base : Heap} (zb : Blts mg base) (t : AtM K mg "size_of" s_size_of) (c_nodes_of : KnownP P w K mg base 1 "nodes_of" sp_nodes_of) : KnownP P w K mg base 2 "size_of" sp_size_of :=
  known (k := 1) t sc_size_of pl_size_of (fun _ _ F => F.binds (ps := ["tree"]) fun _ _ _ _ _ _ us hl => match us, hl with | [_], _ => rfl) fun f cdv A out s0 H b ks E room grd hk => dv_size_of zb hk room grd c_nodes_of (by decide)
theorem kn_is_node {P : Program} {w : World} {K : PySem.W.Frag} {mg : Str → Option Value} {base : Heap} (zb : Blts mg base) (t : AtM K mg "is_node" s_is_node) (c_parts_of : KnownP P w K mg base 1 "parts_of" sp_parts_of) : KnownP P w K mg base 2 "is_node" sp_is_node :=
  known (k := 1) t sc_is_node pl_is_node (fun _ _ F => F.binds (ps := ["kind", "thing"]) fun _ _ _ _ _ _ us hl => match us, hl with | [_, _], _ => rfl) fun f cdv A out s0 H b ks E room grd hk => dv_is_node zb hk room grd c_parts_of (by decide)
theorem kn_is_tree {P : Program} {w : World} {K : PySem.W.Frag} {mg : Str → Option Value} {base : Heap} (zb : Blts mg base) (t : AtM K mg "is_tree" s_is_tree) (c_is_node : KnownP P w K mg base 2 "is_node" sp_is_node) : KnownP P w K mg base 3 "is_tree" sp_is_tree :=
  known (k := 2) t sc_is_tree pl_is_tree (fun _ _ F => F.binds (ps := ["kind", "thing"]) fun _ _ _ _ _ _ us hl => match us, hl with | [_, _], _ => rfl) fun f cdv A out s0 H b ks E room grd hk => dv_is_tree zb hk room grd c_is_node (by decide)
theorem kn__law_mixed {P : Program} {w : World} {K : PySem.W.Frag} {mg : Str → Option Value} {base : Heap} (zb : Blts mg base) (t : AtM K mg "_law_mixed" s__law_mixed) : KnownP P w K mg base 1 "_law_mixed" sp__law_mixed :=
  known (k := 0) t sc__law_mixed pl__law_mixed (fun _ _ F => F.binds (ps := ["number", "lap"]) fun _ _ _ _ _ _ us hl => match us, hl with | [_, _], _ => rfl) fun f cdv A out s0 H b ks E room grd hk => dv__law_mixed zb hk room grd 
theorem kn__law_deck_of {P : Program} {w : World} {K : PySem.W.Frag} {mg : Str → Option Value} {base : Heap} (zb : Blts mg base) (t : AtM K mg "_law_deck_of" s__law_deck_of) : KnownP P w K mg base 1 "_law_deck_of" sp__law_deck_of :=
  known (k := 0) t sc__law_deck_of pl__law_deck_of (fun _ _ F => F.binds (ps := ["script"]) fun _ _ _ _ _ _ us hl => match us, hl with | [_], _ => rfl) fun f cdv A out s0 H b ks E room grd hk => dv__law_deck_of zb hk room grd 
theorem kn__law_below {P : Program} {w : World} {K : PySem.W.Frag} {mg : Str → Option Value} {base : Heap} (zb : Blts mg base) (t : AtM K mg "_law_below" s__law_below) (c__law_mixed : KnownP P w K mg base 1 "_law_mixed" sp__law_mixed) : KnownP P w K mg base 2 "_law_below" sp__law_below :=
  known (k := 1) t sc__law_below pl__law_below (fun _ _ F => F.binds (ps := ["deck", "bound"]) fun _ _ _ _ _ _ us hl => match us, hl with | [_, _], _ => rfl) fun f cdv A out s0 H b ks E room grd hk => dv__law_below zb hk room grd c__law_mixed (by decide)
theorem kn__law_pick {P : Program} {w : World} {K : PySem.W.Frag} {mg : Str → Option Value} {base : Heap} (zb : Blts mg base) (t : AtM K mg "_law_pick" s__law_pick) (c__law_below : KnownP P w K mg base 2 "_law_below" sp__law_below) : KnownP P w K mg base 3 "_law_pick" sp__law_pick :=
  known (k := 2) t sc__law_pick pl__law_pick (fun _ _ F => F.binds (ps := ["deck", "some"]) fun _ _ _ _ _ _ us hl => match us, hl with | [_, _], _ => rfl) fun f cdv A out s0 H b ks E room grd hk => dv__law_pick zb hk room grd c__law_below (by decide)
theorem kn__law_some_kind {P : Program} {w : World} {K : PySem.W.Frag} {mg : Str → Option Value} {base : Heap} (zb : Blts mg base) (t : AtM K mg "_law_some_kind" s__law_some_kind) (c__law_below : KnownP P w K mg base 2 "_law_below" sp__law_below) (c__law_pick : KnownP P w K mg base 3 "_law_pick" sp__law_pick) : KnownP P w K mg base 4 "_law_some_kind" sp__law_some_kind :=
  known (k := 3) t sc__law_some_kind pl__law_some_kind (fun _ _ F => F.binds (ps := ["deck", "most"]) fun _ _ _ _ _ _ us hl => match us, hl with | [_, _], _ => rfl) fun f cdv A out s0 H b ks E room grd hk => dv__law_some_kind zb hk room grd c__law_below (by decide) c__law_pick (by decide)
theorem kn__law_some_tree_m {P : Program} {w : World} {K : PySem.W.Frag} {mg : Str → Option Value} {base : Heap} (zb : Blts mg base) (t : AtM K mg "_law_some_tree" s__law_some_tree) (c__law_pick : KnownP P w K mg base 3 "_law_pick" sp__law_pick) : ∀ m : Nat, KnownP P w K mg base (3 + m) "_law_some_tree" (sp__law_some_tree m)
  | 0 => vacuous t (fun _ _ F => F.binds (ps := ["deck", "kind", "deep"]) fun _ _ _ _ _ _ us hl => match us, hl with | [_, _, _], _ => rfl) no__law_some_tree
  | m + 1 => by
    have ih := kn__law_some_tree_m (P := P) (w := w) (base := base) zb t c__law_pick m
    exact known (k := 3 + m) t sc__law_some_tree (pl__law_some_tree m) (fun _ _ F => F.binds (ps := ["deck", "kind", "deep"]) fun _ _ _ _ _ _ us hl => match us, hl with | [_, _, _], _ => rfl) fun f cdv A out s0 H b ks E room grd hk => dv__law_some_tree zb hk room grd ih (by omega) c__law_pick (by omega)
theorem kn__law_some_tree {P : Program} {w : World} {K : PySem.W.Frag} {mg : Str → Option Value} {base : Heap} (zb : Blts mg base) (t : AtM K mg "_law_some_tree" s__law_some_tree) (c__law_pick : KnownP P w K mg base 3 "_law_pick" sp__law_pick) : KnownP P w K mg base 7 "_law_some_tree" (sp__law_some_tree 4) := kn__law_some_tree_m zb t c__law_pick 4
theorem kn__law_is_tree_m {P : Program} {w : World} {K : PySem.W.Frag} {mg : Str → Option Value} {base : Heap} (zb : Blts mg base) (t : AtM K mg "_law_is_tree" s__law_is_tree) : ∀ m : Nat, KnownP P w K mg base (0 + m) "_law_is_tree" (sp__law_is_tree m)
  | 0 => vacuous t (fun _ _ F => F.binds (ps := ["kind", "thing"]) fun _ _ _ _ _ _ us hl => match us, hl with | [_, _], _ => rfl) no__law_is_tree
  | m + 1 => by
    have ih := kn__law_is_tree_m (P := P) (w := w) (base := base) zb t  m
    exact known (k := 0 + m) t sc__law_is_tree (pl__law_is_tree m) (fun _ _ F => F.binds (ps := ["kind", "thing"]) fun _ _ _ _ _ _ us hl => match us, hl with | [_, _], _ => rfl) fun f cdv A out s0 H b ks E room grd hk => dv__law_is_tree zb hk room grd ih (by omega)
theorem kn__law_is_tree {P : Program} {w : World} {K : PySem.W.Frag} {mg : Str → Option Value} {base : Heap} (zb : Blts mg base) (t : AtM K mg "_law_is_tree" s__law_is_tree) : KnownP P w K mg base 12 "_law_is_tree" (sp__law_is_tree 12) := kn__law_is_tree_m zb t  12
theorem kn__law_leaning {P : Program} {w : World} {K : PySem.W.Frag} {mg : Str → Option Value} {base : Heap} (zb : Blts mg base) (t : AtM K mg "_law_leaning" s__law_leaning) (c__law_pick : KnownP P w K mg base 3 "_law_pick" sp__law_pick) (c__law_below : KnownP P w K mg base 2 "_law_below" sp__law_below) : KnownP P w K mg base 4 "_law_leaning" sp__law_leaning :=
  known (k := 3) t sc__law_leaning pl__law_leaning (fun _ _ F => F.binds (ps := ["deck", "kind", "levels"]) fun _ _ _ _ _ _ us hl => match us, hl with | [_, _, _], _ => rfl) fun f cdv A out s0 H b ks E room grd hk => dv__law_leaning zb hk room grd c__law_pick (by decide) c__law_below (by decide)
theorem kn__law_bent_m {P : Program} {w : World} {K : PySem.W.Frag} {mg : Str → Option Value} {base : Heap} (zb : Blts mg base) (t : AtM K mg "_law_bent" s__law_bent) (c__law_pick : KnownP P w K mg base 3 "_law_pick" sp__law_pick) (c__law_below : KnownP P w K mg base 2 "_law_below" sp__law_below) : ∀ m : Nat, KnownP P w K mg base (3 + m) "_law_bent" (sp__law_bent m)
  | 0 => vacuous t (fun _ _ F => F.binds (ps := ["deck", "kind", "tree"]) fun _ _ _ _ _ _ us hl => match us, hl with | [_, _, _], _ => rfl) no__law_bent
  | m + 1 => by
    have ih := kn__law_bent_m (P := P) (w := w) (base := base) zb t c__law_pick c__law_below m
    exact known (k := 3 + m) t sc__law_bent (pl__law_bent m) (fun _ _ F => F.binds (ps := ["deck", "kind", "tree"]) fun _ _ _ _ _ _ us hl => match us, hl with | [_, _, _], _ => rfl) fun f cdv A out s0 H b ks E room grd hk => dv__law_bent zb hk room grd c__law_pick (by omega) c__law_below (by omega) ih (by omega)
theorem kn__law_bent {P : Program} {w : World} {K : PySem.W.Frag} {mg : Str → Option Value} {base : Heap} (zb : Blts mg base) (t : AtM K mg "_law_bent" s__law_bent) (c__law_pick : KnownP P w K mg base 3 "_law_pick" sp__law_pick) (c__law_below : KnownP P w K mg base 2 "_law_below" sp__law_below) : KnownP P w K mg base 13 "_law_bent" (sp__law_bent 10) := kn__law_bent_m zb t c__law_pick c__law_below 10
theorem kn__law_tags_of {P : Program} {w : World} {K : PySem.W.Frag} {mg : Str → Option Value} {base : Heap} (zb : Blts mg base) (t : AtM K mg "_law_tags_of" s__law_tags_of) : KnownP P w K mg base 1 "_law_tags_of" sp__law_tags_of :=
  known (k := 0) t sc__law_tags_of pl__law_tags_of (fun _ _ F => F.binds (ps := ["tree"]) fun _ _ _ _ _ _ us hl => match us, hl with | [_], _ => rfl) fun f cdv A out s0 H b ks E room grd hk => dv__law_tags_of zb hk room grd 
theorem kn_law {P : Program} {w : World} {K : PySem.W.Frag} {mg : Str → Option Value} {base : Heap} (zb : Blts mg base) (t : AtM K mg "law" s_law) (c_is_tree : KnownP P w K mg base 3 "is_tree" sp_is_tree) (c__law_is_tree : KnownP P w K mg base 12 "_law_is_tree" (sp__law_is_tree 12)) (c__law_bent : KnownP P w K mg base 13 "_law_bent" (sp__law_bent 10)) (c_size_of : KnownP P w K mg base 2 "size_of" sp_size_of) (c__law_tags_of : KnownP P w K mg base 1 "_law_tags_of" sp__law_tags_of) (c__law_leaning : KnownP P w K mg base 4 "_law_leaning" sp__law_leaning) (c__law_below : KnownP P w K mg base 2 "_law_below" sp__law_below) (c__law_some_tree : KnownP P w K mg base 7 "_law_some_tree" (sp__law_some_tree 4)) (c__law_pick : KnownP P w K mg base 3 "_law_pick" sp__law_pick) (c__law_some_kind : KnownP P w K mg base 4 "_law_some_kind" sp__law_some_kind) (c__law_deck_of : KnownP P w K mg base 1 "_law_deck_of" sp__law_deck_of) : KnownP P w K mg base 14 "law" sp_law :=
  known (k := 13) t sc_law pl_law (fun _ _ F => F.binds (ps := ["script"]) fun _ _ _ _ _ _ us hl => match us, hl with | [_], _ => rfl) fun f cdv A out s0 H b ks E room grd hk => dv_law zb hk room grd c_is_tree (by decide) c__law_is_tree (by decide) c__law_bent (by decide) c_size_of (by decide) c__law_tags_of (by decide) c__law_leaning (by decide) c__law_below (by decide) c__law_some_tree (by decide) c__law_pick (by decide) c__law_some_kind (by decide) c__law_deck_of (by decide)
theorem all_ok {l : PySem.W.OpenLaw} {w : World} {K : PySem.W.Frag} {h : Heap} {mg : Str → Option Value} {fa : Addr} (X : K.In h) (G : h.Ns mainGlobals mg) (hfa : mg "law" = some (.ref fa)) (t_parts_of : AtK K "parts_of" s_parts_of) (t_nodes_of : AtK K "nodes_of" s_nodes_of) (t_size_of : AtK K "size_of" s_size_of) (t_is_node : AtK K "is_node" s_is_node) (t_is_tree : AtK K "is_tree" s_is_tree) (t__law_mixed : AtK K "_law_mixed" s__law_mixed) (t__law_deck_of : AtK K "_law_deck_of" s__law_deck_of) (t__law_below : AtK K "_law_below" s__law_below) (t__law_pick : AtK K "_law_pick" s__law_pick) (t__law_some_kind : AtK K "_law_some_kind" s__law_some_kind) (t__law_some_tree : AtK K "_law_some_tree" s__law_some_tree) (t__law_is_tree : AtK K "_law_is_tree" s__law_is_tree) (t__law_leaning : AtK K "_law_leaning" s__law_leaning) (t__law_bent : AtK K "_law_bent" s__law_bent) (t__law_tags_of : AtK K "_law_tags_of" s__law_tags_of) (t_law : AtK K "law" s_law) (z_len : PySem.W.nsIn K mainGlobals "len" = some none) (z_abs : PySem.W.nsIn K mainGlobals "abs" = some none) (z_int : PySem.W.nsIn K mainGlobals "int" = some none) (z_str : PySem.W.nsIn K mainGlobals "str" = some none) (z_bool : PySem.W.nsIn K mainGlobals "bool" = some none) (z_repr : PySem.W.nsIn K mainGlobals "repr" = some none) (z_isinstance : PySem.W.nsIn K mainGlobals "isinstance" = some none) (z_list : PySem.W.nsIn K mainGlobals "list" = some none) (z_tuple : PySem.W.nsIn K mainGlobals "tuple" = some none) (z_dict : PySem.W.nsIn K mainGlobals "dict" = some none) (z_range : PySem.W.nsIn K mainGlobals "range" = some none) (z_enumerate : PySem.W.nsIn K mainGlobals "enumerate" = some none) :
    ∃ fd : FuncData, (∀ (s : Shared) (v : Value), BindsTo s fd ⟨[v], []⟩ [("script", v)]) ∧ ∀ base : Heap, K.In base → base.Ns mainGlobals mg → ModsOk base → FnG l.prog w K mg base CX0 14 fa fd ["script"] (toSp K sp_law) := by
  obtain ⟨f, fd, F, hm, hk⟩ := (t_law.m X G).fn
  have e := hfa.symm.trans hm
  cases e
  refine ⟨fd, fun s v => ?_, fun base _ _ hM => ?_⟩
  · obtain ⟨oc, od, kV, doc, pm, an, cdv, ct, osl, rfl, _⟩ := F.ex
    exact .of_eq rfl
  have zb : Blts mg base := ⟨PySem.W.mg_none_of X G z_len, PySem.W.mg_none_of X G z_abs, PySem.W.mg_none_of X G z_int, PySem.W.mg_none_of X G z_str, PySem.W.mg_none_of X G z_bool, PySem.W.mg_none_of X G z_repr, PySem.W.mg_none_of X G z_isinstance, PySem.W.mg_none_of X G z_list, PySem.W.mg_none_of X G z_tuple, PySem.W.mg_none_of X G z_dict, PySem.W.mg_none_of X G z_range, PySem.W.mg_none_of X G z_enumerate, hM⟩
  have c_parts_of : KnownP l.prog w K mg base 1 "parts_of" sp_parts_of := kn_parts_of zb (t_parts_of.m X G) 
  have c_nodes_of : KnownP l.prog w K mg base 1 "nodes_of" sp_nodes_of := kn_nodes_of zb (t_nodes_of.m X G) 
  have c_size_of : KnownP l.prog w K mg base 2 "size_of" sp_size_of := kn_size_of zb (t_size_of.m X G) c_nodes_of
  have c_is_node : KnownP l.prog w K mg base 2 "is_node" sp_is_node := kn_is_node zb (t_is_node.m X G) c_parts_of
  have c_is_tree : KnownP l.prog w K mg base 3 "is_tree" sp_is_tree := kn_is_tree zb (t_is_tree.m X G) c_is_node
  have c__law_mixed : KnownP l.prog w K mg base 1 "_law_mixed" sp__law_mixed := kn__law_mixed zb (t__law_mixed.m X G) 
  have c__law_deck_of : KnownP l.prog w K mg base 1 "_law_deck_of" sp__law_deck_of := kn__law_deck_of zb (t__law_deck_of.m X G) 
  have c__law_below : KnownP l.prog w K mg base 2 "_law_below" sp__law_below := kn__law_below zb (t__law_below.m X G) c__law_mixed
  have c__law_pick : KnownP l.prog w K mg base 3 "_law_pick" sp__law_pick := kn__law_pick zb (t__law_pick.m X G) c__law_below
  have c__law_some_kind : KnownP l.prog w K mg base 4 "_law_some_kind" sp__law_some_kind := kn__law_some_kind zb (t__law_some_kind.m X G) c__law_below c__law_pick
  have c__law_some_tree : KnownP l.prog w K mg base 7 "_law_some_tree" (sp__law_some_tree 4) := kn__law_some_tree zb (t__law_some_tree.m X G) c__law_pick
  have c__law_is_tree : KnownP l.prog w K mg base 12 "_law_is_tree" (sp__law_is_tree 12) := kn__law_is_tree zb (t__law_is_tree.m X G) 
  have c__law_leaning : KnownP l.prog w K mg base 4 "_law_leaning" sp__law_leaning := kn__law_leaning zb (t__law_leaning.m X G) c__law_pick c__law_below
  have c__law_bent : KnownP l.prog w K mg base 13 "_law_bent" (sp__law_bent 10) := kn__law_bent zb (t__law_bent.m X G) c__law_pick c__law_below
  have c__law_tags_of : KnownP l.prog w K mg base 1 "_law_tags_of" sp__law_tags_of := kn__law_tags_of zb (t__law_tags_of.m X G) 
  have c_law : KnownP l.prog w K mg base 14 "law" sp_law := kn_law zb (t_law.m X G) c_is_tree c__law_is_tree c__law_bent c_size_of c__law_tags_of c__law_leaning c__law_below c__law_some_tree c__law_pick c__law_some_kind c__law_deck_of
  exact PL.fn (N := n_law) (ps := ["script"]) pl_law F sc_law fun cdv A out s0 H b ks E room grd hk' => dv_law zb hk' room grd c_is_tree (by decide) c__law_is_tree (by decide) c__law_bent (by decide) c_size_of (by decide) c__law_tags_of (by decide) c__law_leaning (by decide) c__law_below (by decide) c__law_some_tree (by decide) c__law_pick (by decide) c__law_some_kind (by decide) c__law_deck_of (by decide)
end DL
open PySem PySem.W PyProof.Rows
set_option maxRecDepth 100000 in
set_option maxHeartbeats 0 in
theorem PySem.Challenge.cw_layoutswap_k30_trees_recognized_holds : PySem.Challenge.rw_layoutswap_k30_trees_recognized.Holds := by
  w_on; o_law; k_head; (case hw => w_witness2)
  k_fill
  refine DL.walk_law (l := PySem.Challenge.rw_layoutswap_k30_trees_recognized) (n := 63) (k := 14) (sp := DL.sp_law) (x := "script") rfl (by decide) rfl ⟨rfl, by decide, by decide⟩ (by decide +kernel) (fun w h Y => PySem.W.kIn_of Y) ?F ?want
  case want =>
    intro ns Q hl hb hq
    exact ⟨ns, rfl, hl, hq _⟩
  case F =>
    intro w mg fa h KX G hmg
    refine' DL.all_ok KX G hmg ?t_parts_of ?t_nodes_of ?t_size_of ?t_is_node ?t_is_tree ?t__law_mixed ?t__law_deck_of ?t__law_below ?t__law_pick ?t__law_some_kind ?t__law_some_tree ?t__law_is_tree ?t__law_leaning ?t__law_bent ?t__law_tags_of ?t_law ?z_len ?z_abs ?z_int ?z_str ?z_bool ?z_repr ?z_isinstance ?z_list ?z_tuple ?z_dict ?z_range ?z_enumerate
    (case t_parts_of => refine' DL.atK_mk ?a ?l ?c ?k; (case a => k_is); (case l => k_is); (case c => k_is); (case k => k_is))
    (case t_nodes_of => refine' DL.atK_mk ?a ?l ?c ?k; (case a => k_is); (case l => k_is); (case c => k_is); (case k => k_is))
    (case t_size_of => refine' DL.atK_mk ?a ?l ?c ?k; (case a => k_is); (case l => k_is); (case c => k_is); (case k => k_is))
    (case t_is_node => refine' DL.atK_mk ?a ?l ?c ?k; (case a => k_is); (case l => k_is); (case c => k_is); (case k => k_is))
    (case t_is_tree => refine' DL.atK_mk ?a ?l ?c ?k; (case a => k_is); (case l => k_is); (case c => k_is); (case k => k_is))
    (case t__law_mixed => refine' DL.atK_mk ?a ?l ?c ?k; (case a => k_is); (case l => k_is); (case c => k_is); (case k => k_is))
    (case t__law_deck_of => refine' DL.atK_mk ?a ?l ?c ?k; (case a => k_is); (case l => k_is); (case c => k_is); (case k => k_is))
    (case t__law_below => refine' DL.atK_mk ?a ?l ?c ?k; (case a => k_is); (case l => k_is); (case c => k_is); (case k => k_is))
    (case t__law_pick => refine' DL.atK_mk ?a ?l ?c ?k; (case a => k_is); (case l => k_is); (case c => k_is); (case k => k_is))
    (case t__law_some_kind => refine' DL.atK_mk ?a ?l ?c ?k; (case a => k_is); (case l => k_is); (case c => k_is); (case k => k_is))
    (case t__law_some_tree => refine' DL.atK_mk ?a ?l ?c ?k; (case a => k_is); (case l => k_is); (case c => k_is); (case k => k_is))
    (case t__law_is_tree => refine' DL.atK_mk ?a ?l ?c ?k; (case a => k_is); (case l => k_is); (case c => k_is); (case k => k_is))
    (case t__law_leaning => refine' DL.atK_mk ?a ?l ?c ?k; (case a => k_is); (case l => k_is); (case c => k_is); (case k => k_is))
    (case t__law_bent => refine' DL.atK_mk ?a ?l ?c ?k; (case a => k_is); (case l => k_is); (case c => k_is); (case k => k_is))
    (case t__law_tags_of => refine' DL.atK_mk ?a ?l ?c ?k; (case a => k_is); (case l => k_is); (case c => k_is); (case k => k_is))
    (case t_law => refine' DL.atK_mk ?a ?l ?c ?k; (case a => k_is); (case l => k_is); (case c => k_is); (case k => k_is))
    (case z_len => k_is)
    (case z_abs => k_is)
    (case z_int => k_is)
    (case z_str => k_is)
    (case z_bool => k_is)
    (case z_repr => k_is)
    (case z_isinstance => k_is)
    (case z_list => k_is)
    (case z_tuple => k_is)
    (case z_dict => k_is)
    (case z_range => k_is)
    (case z_enumerate => k_is)

