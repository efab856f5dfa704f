import PyProof.Rows.All
import Wide.All
import OpenK.AllK
import Wide.FinOn
import HandS.ForMost
import HandS.Evl
import HandS.Wide
import HandS.Exc
import HandS.ExcOwn
import HandS.WordsExc
import HandS.TupAny
import HandS.TupMul
import HandS.IsInst
import HandS.Style
import HandS.Dict
import HandS.Text
import HandS.Comp
import HandS.SetKeys
import KE.KDictPairs
import HandS.SetFor
import HandS.Iter
import PyProof.ListStr
import KE.KRevSl
import HandS.Strs
import PyProof.ListNew
import HandS.SetBool
import PyProof.StrBlock2
import KE.GoesEnum
import PyProof.InstEq
import HandS.ClsMeth
import PyProof.FactsDict
import HandS.Property
import PyProof.Rows.RegStrFacts
import HandS.Ends
import HandS.EndBits
import PyProof.P3Eq
import HandS.Words
import PySem.Challenge.RW_layoutswap_k35_whole_records_of_sums_and
set_option Elab.async false
set_option maxRecDepth 100000
set_option maxHeartbeats 4000000
/-! DL: a layer of data over the hand layer: values as trees (D), objects that one name owns (Own), readings as predicate transformers over them. -/
namespace DL
open PySem PySem.Spec PyProof.Rows L2

/-! ### data -/
inductive D where
  | non | bl (b : Bool) | int (i : Int) | str (x : Str)
  | lst (l : List D) | tup (l : List D) | dct (l : List (Key × D)) | ins (C : Addr) (l : List (Str × D))
  /-- a list that is read alone (the script) -/
  | fzl (l : List D)
  /-- a tuple that an iterator made -/
  | wt (l : List D)
  /-- a built-in type, a class of the program's -/
  | ty (n : String) | cls (C : Addr)
/-- an object that one name holds alone -/
inductive Own where
  | lst (l : List D) | dct (l : List (Key × D)) | ins (C : Addr) (l : List (Str × D))
def Own.d : Own → D
  | .lst l => .lst l
  | .dct l => .dct l
  | .ins C l => .ins C l
/-- what a slot holds -/
inductive Sl where
  | no | dat (d : D) | own (o : Own)
abbrev Rho := List Sl
/-- what an expression hands on: data, a new object, the object of a slot -/
inductive R where
  | dat (d : D) | own (o : Own) | bor (i : Nat)
/-- what an operation gives: data, a new object, a new tuple -/
inductive Z where
  | d (d : D) | n (o : Own) | t (l : List D) | w (l : List D)
def Z.r : Z → R
  | .d x => .dat x
  | .n o => .own o
  | .t l => .dat (.tup l)
  | .w l => .dat (.wt l)
def lk {α : Type} : Option α → (α → Prop) → Prop
  | some a, k => k a
  | none, _ => False
theorem lk_some {α : Type} {a : α} {k : α → Prop} : lk (some a) k = k a := rfl
theorem lk_get {α : Type} {x : Option α} {k : α → Prop} (h : lk x k) : ∃ a, x = some a ∧ k a := by
  cases x with
  | none => exact h.elim
  | some a => exact ⟨a, rfl, h⟩
theorem lk_of {α : Type} {x : Option α} {k : α → Prop} {a : α} (e : x = some a) (h : k a) : lk x k := by rw [e]; exact h
def Sl.con : Sl → Option D
  | .no => none
  | .dat d => some d
  | .own o => some o.d
/-- what stands behind an answer just now -/
def con (ρ : Rho) : R → Option D
  | .dat d => some d
  | .own o => some o.d
  | .bor i => match ρ[i]? with
    | some (.own o) => some o.d
    | some (.dat d) => some d
    | _ => none

/-! ### how data lie in a heap -/
def Ex (G H : Hp) : Prop := ∀ a o, G a = some o → H a = some o
theorem Ex.refl (G : Hp) : Ex G G := fun _ _ h => h
theorem Ex.trans {G H J : Hp} (a : Ex G H) (b : Ex H J) : Ex G J := fun x o h => b x o (a x o h)
theorem Ex.gone {G H : Hp} (e : Ex G H) {a : Addr} (h : H a = none) : G a = none := by
  cases q : G a with
  | none => rfl
  | some o => rw [e a o q] at h; cases h
theorem Ex.put {G : Hp} {p : Addr} {o : HO} (h : G p = none) : Ex G (upd G p o) := fun b u q => by
  rw [upd_ne (ne_of_none q h)]; exact q
theorem Ex.both {G H : Hp} {p : Addr} {o : HO} (e : Ex G H) (h : H p = some o) : Ex (upd G p o) H := fun b u q => by
  by_cases hb : b = p
  · subst hb; rw [upd_same] at q; cases q; exact h
  · rw [upd_ne hb] at q; exact e b u q
theorem Ex.over {G H : Hp} {p : Addr} {o : HO} (e : Ex G H) (h : G p = none) : Ex G (upd H p o) := fun b u q => by
  rw [upd_ne (ne_of_none q h)]; exact e b u q
theorem Ex.two {G H : Hp} {p : Addr} {o : HO} (e : Ex G H) : Ex (upd G p o) (upd H p o) := fun b u q => by
  by_cases hb : b = p
  · subst hb; rw [upd_same] at q ⊢; exact q
  · rw [upd_ne hb] at q ⊢; exact e b u q
theorem Ex.rd {G H : Hp} {a : Addr} {u : HO} (e : Ex G H) (h : Rd G a u) : Rd H a u := by
  rcases h with h | ⟨o, h⟩
  · exact .inl (e _ _ h)
  · exact .inr ⟨o, e _ _ h⟩
theorem Ex.sql {K : PySem.W.Frag} {G H : Hp} {a : Addr} {xs : List V} (e : Ex G H) (h : SqL K G a xs) : SqL K H a xs := by
  rcases h with h | h
  · exact .inl (e.rd h)
  · exact .inr h
theorem Ex.sqt {K : PySem.W.Frag} {G H : Hp} {a : Addr} {xs : List V} (e : Ex G H) (h : SqT K G a xs) : SqT K H a xs := by
  rcases h with h | h
  · exact .inl (e.rd h)
  · exact .inr h

/-- a tuple with no dict of its own -/
def SqP (K : PySem.W.Frag) (G : Hp) (a : Addr) (xs : List V) : Prop := SqT K G a xs ∧ ((∃ o u, G a = some (.frz o u) ∧ o.dict = none) ∨ ∃ o, K.lookup a = some o ∧ o.dict = none)
theorem Ex.sqp {K : PySem.W.Frag} {G H : Hp} {a : Addr} {xs : List V} (e : Ex G H) (h : SqP K G a xs) : SqP K H a xs := by
  refine ⟨e.sqt h.1, ?_⟩
  rcases h.2 with ⟨o, u, h1, h2⟩ | h
  · exact .inl ⟨o, u, e _ _ h1, h2⟩
  · exact .inr h
theorem SqP.new {K : PySem.W.Frag} {G : Hp} {p : Addr} {o : Obj} {xs : List V} (h : o.dict = none) : SqP K (upd G p (.frz o (.tup xs))) p xs := ⟨.inl (.inr ⟨o, upd_same⟩), .inl ⟨o, _, upd_same, h⟩⟩

mutual
inductive Rp (K : PySem.W.Frag) (G : Hp) : V → D → Prop
  | non : Rp K G .non .non
  | bl (b : Bool) : Rp K G (.bl b) (.bl b)
  | int (i : Int) : Rp K G (.int i) (.int i)
  | str (x : Str) : Rp K G (.str x) (.str x)
  | lst {a : Addr} {xs : List V} {ds : List D} : G a = some (.lst xs) → RpA K G xs ds → Rp K G (.ref a) (.lst ds)
  | fzl {a : Addr} {xs : List V} {ds : List D} : SqL K G a xs → RpA K G xs ds → Rp K G (.ref a) (.fzl ds)
  | tup {a : Addr} {xs : List V} {ds : List D} : SqP K G a xs → RpA K G xs ds → Rp K G (.ref a) (.tup ds)
  | wt {a : Addr} {xs : List V} {ds : List D} : SqT K G a xs → RpA K G xs ds → Rp K G (.ref a) (.wt ds)
  | ty (n : String) : Rp K G (.ty n) (.ty n)
  | cls (C : Addr) : Rp K G (.ref C) (.cls C)
  | dct {a : Addr} {ks : List (Key × V)} {ds : List (Key × D)} : G a = some (.dK ks) → RpK K G ks ds → Rp K G (.ref a) (.dct ds)
  | ins {a C dx : Addr} {fs : List (Str × V)} {ds : List (Str × D)} : G a = some (.ins C dx fs) → RpF K G fs ds → Rp K G (.ref a) (.ins C ds)
inductive RpA (K : PySem.W.Frag) (G : Hp) : List V → List D → Prop
  | nil : RpA K G [] []
  | cons {v : V} {vs : List V} {d : D} {ds : List D} : Rp K G v d → RpA K G vs ds → RpA K G (v :: vs) (d :: ds)
inductive RpK (K : PySem.W.Frag) (G : Hp) : List (Key × V) → List (Key × D) → Prop
  | nil : RpK K G [] []
  | cons {k : Key} {v : V} {vs : List (Key × V)} {d : D} {ds : List (Key × D)} : Rp K G v d → RpK K G vs ds → RpK K G ((k, v) :: vs) ((k, d) :: ds)
inductive RpF (K : PySem.W.Frag) (G : Hp) : List (Str × V) → List (Str × D) → Prop
  | nil : RpF K G [] []
  | cons {k : Str} {v : V} {vs : List (Str × V)} {d : D} {ds : List (Str × D)} : Rp K G v d → RpF K G vs ds → RpF K G ((k, v) :: vs) ((k, d) :: ds)
end

section
variable {K : PySem.W.Frag} {G H : Hp}
mutual
theorem Rp.up (e : Ex G H) : ∀ {v : V} {d : D}, Rp K G v d → Rp K H v d
  | _, _, .non => .non
  | _, _, .bl b => .bl b
  | _, _, .int i => .int i
  | _, _, .str x => .str x
  | _, _, .lst h r => .lst (e _ _ h) (RpA.up e r)
  | _, _, .fzl h r => .fzl (e.sql h) (RpA.up e r)
  | _, _, .tup h r => .tup (e.sqp h) (RpA.up e r)
  | _, _, .wt h r => .wt (e.sqt h) (RpA.up e r)
  | _, _, .ty n => .ty n
  | _, _, .cls C => .cls C
  | _, _, .dct h r => .dct (e _ _ h) (RpK.up e r)
  | _, _, .ins h r => .ins (e _ _ h) (RpF.up e r)
theorem RpA.up (e : Ex G H) : ∀ {v : List V} {d : List D}, RpA K G v d → RpA K H v d
  | _, _, .nil => .nil
  | _, _, .cons h r => .cons (Rp.up e h) (RpA.up e r)
theorem RpK.up (e : Ex G H) : ∀ {v : List (Key × V)} {d : List (Key × D)}, RpK K G v d → RpK K H v d
  | _, _, .nil => .nil
  | _, _, .cons h r => .cons (Rp.up e h) (RpK.up e r)
theorem RpF.up (e : Ex G H) : ∀ {v : List (Str × V)} {d : List (Str × D)}, RpF K G v d → RpF K H v d
  | _, _, .nil => .nil
  | _, _, .cons h r => .cons (Rp.up e h) (RpF.up e r)
end
end

inductive RpO (K : PySem.W.Frag) (G : Hp) : HO → Own → Prop
  | lst {xs : List V} {ds : List D} : RpA K G xs ds → RpO K G (.lst xs) (.lst ds)
  | dct {ks : List (Key × V)} {ds : List (Key × D)} : RpK K G ks ds → RpO K G (.dK ks) (.dct ds)
  | ins {C dx : Addr} {fs : List (Str × V)} {ds : List (Str × D)} : RpF K G fs ds → RpO K G (.ins C dx fs) (.ins C ds)
section
variable {K : PySem.W.Frag} {G H : Hp} {h : HO} {o : Own} {a : Addr}
theorem RpO.up (e : Ex G H) (r : RpO K G h o) : RpO K H h o := by
  cases r with
  | lst r => exact .lst (r.up e)
  | dct r => exact .dct (r.up e)
  | ins r => exact .ins (r.up e)
/-- held by nobody alone: data -/
theorem RpO.froz (hn : G a = none) (r : RpO K G h o) : Rp K (upd G a h) (.ref a) o.d := by
  have e : Ex G (upd G a h) := Ex.put hn
  cases r with
  | lst r => exact .lst upd_same (r.up e)
  | dct r => exact .dct upd_same (r.up e)
  | ins r => exact .ins upd_same (r.up e)
end

/-- a value whose own object may be a slot's, its parts data -/
def Rc (K : PySem.W.Frag) (H G : Hp) (v : V) (d : D) : Prop :=
  Rp K G v d ∨ ∃ a h o, v = .ref a ∧ H a = some h ∧ RpO K G h o ∧ o.d = d

/-! ### a frame's slots -/
structure Bas where
  /-- what a def keeps as it is -/
  B : Hp
  /-- the data at the entry -/
  G0 : Hp
  /-- the parameters that are handed on by reference -/
  kp : List (Nat × Addr)
structure Rel (K : PySem.W.Frag) (b : Bas) (σ : L2.St) (H G : Hp) (ρ : Rho) : Prop where
  sub : Ex G H
  bas : Ex b.B H
  gro : Ex b.G0 G
  prt : ∀ a, b.B a ≠ none → b.G0 a = none → G a = none
  len : σ.length = ρ.length
  dat : ∀ (i : Nat) (d : D), ρ[i]? = some (.dat d) → ∃ v, σ[i]? = some (some v) ∧ Rp K G v d
  own : ∀ (i : Nat) (o : Own), ρ[i]? = some (.own o) → ∃ a h, σ[i]? = some (some (.ref a)) ∧ H a = some h ∧ G a = none ∧ b.B a = none ∧ RpO K G h o
  dis : ∀ (i j : Nat) (o o' : Own) (a : Addr), ρ[i]? = some (.own o) → ρ[j]? = some (.own o') → σ[i]? = some (some (.ref a)) → σ[j]? = some (some (.ref a)) → i = j
  kep : ∀ p ∈ b.kp, σ[p.1]? = some (some (.ref p.2)) ∧ ∃ o, ρ[p.1]? = some (.own o)
def Rv (K : PySem.W.Frag) (b : Bas) (σ : L2.St) (J H G : Hp) (ρ : Rho) (v : V) : R → Prop
  | .dat d => Rp K G v d
  | .own o => ∃ a h, v = .ref a ∧ H a = some h ∧ G a = none ∧ b.B a = none ∧ RpO K G h o ∧ (∀ (i : Nat) (o' : Own), ρ[i]? = some (.own o') → σ[i]? ≠ some (some (.ref a))) ∧ J a = none
  | .bor i => σ[i]? = some (some v)
/-- what an expression leaves as it was -/
structure Fm (σ : L2.St) (ρ : Rho) (H G : Hp) (ρ' : Rho) (H' G' : Hp) : Prop where
  ex : Ex G G'
  kp : ∀ (a : Addr) (o : HO), H a = some o → (∀ (i : Nat) (o' : Own), ρ[i]? = some (.own o') → σ[i]? ≠ some (some (.ref a))) → H' a = some o ∧ (G a = none → G' a = none)
  ow : ∀ (i : Nat) (o' : Own), ρ'[i]? = some (.own o') → ∃ o, ρ[i]? = some (.own o)
  dm : ∀ (a : Addr), H' a = none → H a = none
theorem Fm.refl (σ : L2.St) (ρ : Rho) (H G : Hp) : Fm σ ρ H G ρ H G := ⟨Ex.refl G, fun _ _ h _ => ⟨h, fun z => z⟩, fun _ o h => ⟨o, h⟩, fun _ h => h⟩
theorem Fm.trans {σ : L2.St} {ρ ρ1 ρ2 : Rho} {H G H1 G1 H2 G2 : Hp} (x : Fm σ ρ H G ρ1 H1 G1) (y : Fm σ ρ1 H1 G1 ρ2 H2 G2) : Fm σ ρ H G ρ2 H2 G2 where
  ex := x.ex.trans y.ex
  kp := fun a o h n => by
    obtain ⟨h1, g1⟩ := x.kp a o h n
    obtain ⟨h2, g2⟩ := y.kp a o h1 fun i o' q => by
      obtain ⟨o'', q⟩ := x.ow i o' q
      exact n i o'' q
    exact ⟨h2, fun z => g2 (g1 z)⟩
  ow := fun i o' h => by
    obtain ⟨o1, h1⟩ := y.ow i o' h
    exact x.ow i o1 h1
  dm := fun a h => x.dm a (y.dm a h)
section
variable {K : PySem.W.Frag} {b : Bas} {σ : L2.St} {H G : Hp} {ρ : Rho}
/-- an object that no slot holds is data from now on -/
theorem Rel.froz {a : Addr} {h : HO} (r : Rel K b σ H G ρ) (ha : H a = some h) (hg : G a = none) (hb : b.B a = none) (hs : ∀ (i : Nat) (o' : Own), ρ[i]? = some (.own o') → σ[i]? ≠ some (some (.ref a))) : Rel K b σ H (upd G a h) ρ where
  sub := r.sub.both ha
  bas := r.bas
  gro := r.gro.trans (Ex.put hg)
  prt := fun c h1 h2 => by
    rw [upd_ne (fun e => h1 (by rw [e]; exact hb))]; exact r.prt c h1 h2
  len := r.len
  dat := fun i d e => by
    obtain ⟨v, h1, h2⟩ := r.dat i d e
    exact ⟨v, h1, h2.up (Ex.put hg)⟩
  own := fun i o e => by
    obtain ⟨c, hc, h1, h2, h3, h4, h5⟩ := r.own i o e
    have hne : c ≠ a := fun z => by subst z; exact hs i o e h1
    exact ⟨c, hc, h1, h2, by rw [upd_ne hne]; exact h3, h4, h5.up (Ex.put hg)⟩
  dis := r.dis
  kep := r.kep
/-- a new object that nobody tracks yet -/
theorem Rel.new {p : Addr} {h : HO} (r : Rel K b σ H G ρ) (hp : H p = none) : Rel K b σ (upd H p h) G ρ where
  sub := r.sub.over (r.sub.gone hp)
  bas := r.bas.over (r.bas.gone hp)
  gro := r.gro
  prt := r.prt
  len := r.len
  dat := r.dat
  own := fun i o e => by
    obtain ⟨c, hc, h1, h2, h3⟩ := r.own i o e
    exact ⟨c, hc, h1, by rw [upd_ne (ne_of_none h2 hp)]; exact h2, h3⟩
  dis := r.dis
  kep := r.kep
theorem Rel.apart {p : Addr} (r : Rel K b σ H G ρ) (hp : H p = none) : ∀ (i : Nat) (o' : Own), ρ[i]? = some (.own o') → σ[i]? ≠ some (some (.ref p)) := fun i o e z => by
  obtain ⟨c, hc, h1, h2, _⟩ := r.own i o e
  rw [h1] at z
  cases z
  rw [hp] at h2; cases h2
/-- a new object, data at once -/
theorem Rel.newD {p : Addr} {h : HO} (r : Rel K b σ H G ρ) (hp : H p = none) : Rel K b σ (upd H p h) (upd G p h) ρ :=
  (r.new hp).froz upd_same (r.sub.gone hp) (r.bas.gone hp) (r.apart hp)
theorem Rv.rc {v : V} {r : R} {d : D} {J : Hp} (w : Rel K b σ H G ρ) (q : Rv K b σ J H G ρ v r) (e : con ρ r = some d) : Rc K H G v d := by
  cases r with
  | dat d' => cases e; exact .inl q
  | own o =>
    cases e
    obtain ⟨a, h, rfl, h1, h2, h3, h4, h5⟩ := q
    exact .inr ⟨a, h, o, rfl, h1, h4, rfl⟩
  | bor i =>
    have q' : σ[i]? = some (some v) := q
    unfold con at e
    dsimp only at e
    split at e
    · rename_i o ho
      cases e
      obtain ⟨a, h, h1, h2, h3, h4, h5⟩ := w.own i o ho
      rw [h1] at q'
      cases q'
      exact .inr ⟨a, h, o, rfl, h2, h5, rfl⟩
    · rename_i x hx
      cases e
      obtain ⟨u, h1, h2⟩ := w.dat i _ hx
      rw [h1] at q'
      cases q'
      exact .inl h2
    · cases e
/-- an answer that is kept while another expression runs -/
theorem Rv.stay {v : V} {r : R} {J H' G' : Hp} {ρ' : Rho} (q : Rv K b σ J H G ρ v r) (m : Fm σ ρ H G ρ' H' G') : Rv K b σ J H' G' ρ' v r := by
  cases r with
  | dat d => exact Rp.up m.ex q
  | own o =>
    obtain ⟨a, h, rfl, h1, h2, h3, h4, h5, h6⟩ := q
    obtain ⟨z1, z2⟩ := m.kp a h h1 h5
    exact ⟨a, h, rfl, z1, z2 h2, h3, h4.up m.ex, fun i o' z => by
      obtain ⟨o'', z⟩ := m.ow i o' z
      exact h5 i o'' z, h6⟩
  | bor i => exact q
/-- seen from further ahead -/
theorem Rv.back {v : V} {r : R} {J J' : Hp} (q : Rv K b σ J H G ρ v r) (h : ∀ a, J a = none → J' a = none) : Rv K b σ J' H G ρ v r := by
  cases r with
  | dat d => exact q
  | bor i => exact q
  | own o =>
    obtain ⟨a, h', rfl, h1, h2, h3, h4, h5, h6⟩ := q
    exact ⟨a, h', rfl, h1, h2, h3, h4, h5, h _ h6⟩
theorem Rel.newF {p : Addr} {h : HO} (r : Rel K b σ H G ρ) (hp : H p = none) : Fm σ ρ H G ρ (upd H p h) G :=
  ⟨Ex.refl G, fun a o q _ => ⟨by rw [upd_ne (ne_of_none q hp)]; exact q, fun z => z⟩, fun _ o q => ⟨o, q⟩, fun a q => by
    by_cases e : a = p
    · subst e; exact hp
    · rw [upd_ne e] at q; exact q⟩
theorem Rel.newFD {p : Addr} {h : HO} (r : Rel K b σ H G ρ) (hp : H p = none) : Fm σ ρ H G ρ (upd H p h) (upd G p h) :=
  ⟨Ex.put (r.sub.gone hp), fun a o q _ => ⟨by rw [upd_ne (ne_of_none q hp)]; exact q, fun z => by rw [upd_ne (ne_of_none q hp)]; exact z⟩, fun _ o q => ⟨o, q⟩, (r.newF (h := h) hp).dm⟩
end

/-! ### readings over data -/
abbrev TD := Rho → (R → Rho → Prop) → Prop
abbrev TTD := Rho → (Bool → Rho → Prop) → Prop
abbrev TAD := Rho → (List R → Rho → Prop) → Prop
structure EndsD where
  nx : Rho → Prop
  rt : R → Rho → Prop
  bk : Rho → Prop := fun _ => False
  ct : Rho → Prop := fun _ => False
abbrev SD := EndsD → Rho → Prop

def lift (K : PySem.W.Frag) (b : Bas) (td : TD) : TE := fun σ H Q => ∃ G ρ QD, Rel K b σ H G ρ ∧ td ρ QD ∧
  ∀ v H' G' r ρ', Rel K b σ H' G' ρ' → Fm σ ρ H G ρ' H' G' → Rv K b σ H H' G' ρ' v r → QD r ρ' → Q v H'
def liftT (K : PySem.W.Frag) (b : Bas) (td : TTD) : TT := fun σ H Q => ∃ G ρ QD, Rel K b σ H G ρ ∧ td ρ QD ∧
  ∀ c H' G' ρ', Rel K b σ H' G' ρ' → Fm σ ρ H G ρ' H' G' → QD c ρ' → Q c H'
/-- what the answers of an argument list are -/
inductive RvA (K : PySem.W.Frag) (b : Bas) (σ : L2.St) (J H G : Hp) (ρ : Rho) : List V → List R → Prop
  | nil : RvA K b σ J H G ρ [] []
  | cons {v : V} {vs : List V} {r : R} {rs : List R} : Rv K b σ J H G ρ v r → (∀ (a : Addr) (o : Own), r = .own o → v = .ref a → ∀ (j : Nat) (o' : Own), rs[j]? = some (.own o') → vs[j]? ≠ some (.ref a)) →
      RvA K b σ J H G ρ vs rs → RvA K b σ J H G ρ (v :: vs) (r :: rs)
def liftA (K : PySem.W.Frag) (b : Bas) (td : TAD) : TA := fun σ H Q => ∃ G ρ QD, Rel K b σ H G ρ ∧ td ρ QD ∧
  ∀ vs H' G' rs ρ', Rel K b σ H' G' ρ' → Fm σ ρ H G ρ' H' G' → RvA K b σ H H' G' ρ' vs rs → QD rs ρ' → Q vs H'
def liftS (K : PySem.W.Frag) (b : Bas) (sd : SD) : TS := fun D σ H => ∃ G ρ DD, Rel K b σ H G ρ ∧ sd DD ρ ∧
  (∀ σ' H' G' ρ', Rel K b σ' H' G' ρ' → Ex G G' → DD.nx ρ' → D.nx σ' H') ∧
  (∀ v σ' H' G' r ρ' J, Rel K b σ' H' G' ρ' → Ex G G' → Rv K b σ' J H' G' ρ' v r → DD.rt r ρ' → D.rt v H') ∧
  (∀ σ' H' G' ρ', Rel K b σ' H' G' ρ' → Ex G G' → DD.bk ρ' → D.bk σ' H') ∧
  (∀ σ' H' G' ρ', Rel K b σ' H' G' ρ' → Ex G G' → DD.ct ρ' → D.ct σ' H')

abbrev PD (X : Cx) (b : Bas) (e : Expr) (td : TD) : Prop := PE X e (lift X.K b td)
abbrev PTD (X : Cx) (b : Bas) (e : Expr) (td : TTD) : Prop := PT X e (liftT X.K b td)
abbrev PAD (X : Cx) (b : Bas) (es : List Expr) (td : TAD) : Prop := PA X es (liftA X.K b td)
abbrev PSD (X : Cx) (b : Bas) (st : Stmt) (sd : SD) : Prop := PS X st (liftS X.K b sd)
abbrev PSsD (X : Cx) (b : Bas) (st : List Stmt) (sd : SD) : Prop := PSs X st (liftS X.K b sd)

theorem pe_weak {X : Cx} {e : Expr} {t t' : TE} (h : PE X e t) (w : ∀ σ H Q, t' σ H Q → t σ H Q) : PE X e t' := ⟨fun pins s σ H Q I q => h.run pins s σ H Q I (w σ H Q q)⟩
theorem pt_weak {X : Cx} {e : Expr} {t t' : TT} (h : PT X e t) (w : ∀ σ H Q, t' σ H Q → t σ H Q) : PT X e t' := ⟨fun pins s σ H Q I q => h.run pins s σ H Q I (w σ H Q q)⟩
theorem pa_weak {X : Cx} {e : List Expr} {t t' : TA} (h : PA X e t) (w : ∀ σ H Q, t' σ H Q → t σ H Q) : PA X e t' := ⟨fun pos pins s σ H Q I q => h.run pos pins s σ H Q I (w σ H Q q)⟩
theorem ps_weak {X : Cx} {e : Stmt} {t t' : TS} (h : PS X e t) (w : ∀ D σ H, t' D σ H → t D σ H) : PS X e t' := ⟨fun pins s σ H D I q => h.run pins s σ H D I (w D σ H q)⟩
theorem pss_weak {X : Cx} {e : List Stmt} {t t' : TS} (h : PSs X e t) (w : ∀ D σ H, t' D σ H → t D σ H) : PSs X e t' := ⟨fun pins s σ H D I q => h.run pins s σ H D I (w D σ H q)⟩

/-! ### names, constants -/
def wVar (i : Nat) : TD := fun ρ Q => match ρ[i]? with
  | some (.dat d) => Q (.dat d) ρ
  | some (.own _) => Q (.bor i) ρ
  | _ => False
def wC (d : D) : TD := fun ρ Q => Q (.dat d) ρ
section
variable {X : Cx} {b : Bas}
theorem d_var {e : Expr} (i : Nat) (h : PE X e (tVar i)) : PD X b e (wVar i) := pe_weak h fun σ H Q q => by
  obtain ⟨G, ρ, QD, w, q, k⟩ := q
  unfold wVar at q
  split at q
  · rename_i d e
    obtain ⟨v, h1, h2⟩ := w.dat i d e
    exact ⟨v, h1, k v H G (.dat d) ρ w (Fm.refl σ ρ H G) h2 q⟩
  · rename_i o e
    obtain ⟨a, h, h1, h2⟩ := w.own i o e
    exact ⟨.ref a, h1, k _ H G (.bor i) ρ w (Fm.refl σ ρ H G) h1 q⟩
  · exact q.elim
/-- a scalar's value -/
def Sc : V → D → Bool
  | .non, .non => true
  | .bl a, .bl c => a == c
  | .int i, .int j => i == j
  | .str x, .str y => x == y
  | _, _ => false
def vD : D → Option V
  | .non => some .non
  | .bl a => some (.bl a)
  | .int i => some (.int i)
  | .str x => some (.str x)
  | .ty n => some (.ty n)
  | .cls C => some (.ref C)
  | _ => none
theorem rp_vD {K : PySem.W.Frag} {G : Hp} {v : V} {d : D} (h : vD d = some v) : Rp K G v d := by
  cases d <;> cases h
  · exact .non
  · exact .bl _
  · exact .int _
  · exact .str _
  · exact .ty _
  · exact .cls _
theorem d_c {e : Expr} {v : V} (d : D) (h : PE X e (tC v)) (hv : vD d = some v := by rfl) : PD X b e (wC d) := pe_weak h fun σ H Q q => by
  obtain ⟨G, ρ, QD, w, q, k⟩ := q
  exact k v H G (.dat d) ρ w (Fm.refl σ ρ H G) (rp_vD hv) q
end

/-! ### operations on values -/
/-- what comes of an operation -/
def Out (K : PySem.W.Frag) (H G : Hp) (v : V) (H' : Hp) : Z → Prop
  | .d x => H' = H ∧ Rp K G v x
  | .n o => ∃ p h, v = .ref p ∧ H p = none ∧ H' = upd H p h ∧ RpO K G h o
  | .t l => (∃ p o xs, v = .ref p ∧ o.dict = none ∧ H p = none ∧ H' = upd H p (.frz o (.tup xs)) ∧ RpA K G xs l) ∨ H' = H ∧ Rp K G v (.tup l)
  | .w l => ∃ p xs, v = .ref p ∧ H p = none ∧ H' = upd H p (.tup xs) ∧ RpA K G xs l
theorem Out.go {K : PySem.W.Frag} {b : Bas} {σ : L2.St} {H G H' : Hp} {ρ : Rho} {v : V} {z : Z} (w : Rel K b σ H G ρ) (h : Out K H G v H' z) : ∃ G', Rel K b σ H' G' ρ ∧ Fm σ ρ H G ρ H' G' ∧ Rv K b σ H H' G' ρ v z.r := by
  cases z with
  | d d =>
    obtain ⟨rfl, h⟩ := h
    exact ⟨G, w, Fm.refl σ ρ H' G, h⟩
  | n o =>
    obtain ⟨p, h, rfl, hp, rfl, r⟩ := h
    exact ⟨G, w.new hp, w.newF hp, p, h, rfl, upd_same, w.sub.gone hp, w.bas.gone hp, r, w.apart hp, hp⟩
  | t l =>
    rcases h with ⟨p, o, xs, rfl, ho, hp, rfl, r⟩ | ⟨rfl, h⟩
    · have e : Ex G (upd G p (.frz o (.tup xs))) := Ex.put (w.sub.gone hp)
      exact ⟨upd G p (.frz o (.tup xs)), w.newD hp, w.newFD hp, .tup (SqP.new ho) (r.up e)⟩
    · exact ⟨G, w, Fm.refl σ ρ H' G, h⟩
  | w l =>
    obtain ⟨p, xs, rfl, hp, rfl, r⟩ := h
    have e : Ex G (upd G p (.tup xs)) := Ex.put (w.sub.gone hp)
    exact ⟨upd G p (.tup xs), w.newD hp, w.newFD hp, .wt (.inl (.inl upd_same)) (r.up e)⟩
/-- a two-place reading does at least what g tells -/
def Op2 (K : PySem.W.Frag) (r : R2) (g : D → D → Option Z) : Prop := ∀ (H G : Hp) (x y : V) (d e : D) (z : Z) (Q : VK), Ex G H → Rc K H G x d → Rc K H G y e → g d e = some z → (∀ v H', Out K H G v H' z → Q v H') → r x y H Q
def Op1 (K : PySem.W.Frag) (r : V → Hp → VK → Prop) (g : D → Option Z) : Prop := ∀ (H G : Hp) (x : V) (d : D) (z : Z) (Q : VK), Ex G H → Rc K H G x d → g d = some z → (∀ v H', Out K H G v H' z → Q v H') → r x H Q
def wOp (g : D → D → Option Z) (ta tb : TD) : TD := fun ρ Q => ta ρ fun r1 ρ1 => tb ρ1 fun r2 ρ2 => lk (con ρ2 r1) fun d1 => lk (con ρ2 r2) fun d2 => lk (g d1 d2) fun z => Q z.r ρ2
def wUn (g : D → Option Z) (ta : TD) : TD := fun ρ Q => ta ρ fun r1 ρ1 => lk (con ρ1 r1) fun d1 => lk (g d1) fun z => Q z.r ρ1
theorem op_go {K : PySem.W.Frag} {b : Bas} {r : R2} {g : D → D → Option Z} (hr : Op2 K r g) {ta tb : TD} {σ : L2.St} {H : Hp} {Q : VK} (q : lift K b (wOp g ta tb) σ H Q) : tOp r (lift K b ta) (lift K b tb) σ H Q := by
  obtain ⟨G, ρ, QD, w, q, k⟩ := q
  refine ⟨G, ρ, _, w, q, fun v H1 G1 r1 ρ1 w1 m1 q1 z1 => ?_⟩
  refine ⟨G1, ρ1, _, w1, z1, fun u H2 G2 r2 ρ2 w2 m2 q2 z2 => ?_⟩
  obtain ⟨d1, c1, z2⟩ := lk_get z2
  obtain ⟨d2, c2, z2⟩ := lk_get z2
  obtain ⟨z, cz, z2⟩ := lk_get z2
  refine hr H2 G2 v u d1 d2 z Q w2.sub ((q1.stay m2).rc w2 c1) (q2.rc w2 c2) cz fun v' H' o => ?_
  obtain ⟨G', w', m', q'⟩ := o.go w2
  exact k v' H' G' _ ρ2 w' ((m1.trans m2).trans m') (q'.back fun a z => (m1.trans m2).dm a z) z2
theorem un_go {K : PySem.W.Frag} {b : Bas} {r : V → Hp → VK → Prop} {g : D → Option Z} (hr : Op1 K r g) {ta : TD} {σ : L2.St} {H : Hp} {Q : VK} (q : lift K b (wUn g ta) σ H Q) : tUn r (lift K b ta) σ H Q := by
  obtain ⟨G, ρ, QD, w, q, k⟩ := q
  refine ⟨G, ρ, _, w, q, fun v H1 G1 r1 ρ1 w1 m1 q1 z1 => ?_⟩
  obtain ⟨d1, c1, z1⟩ := lk_get z1
  obtain ⟨z, cz, z1⟩ := lk_get z1
  refine hr H1 G1 v d1 z Q w1.sub (q1.rc w1 c1) cz fun v' H' o => ?_
  obtain ⟨G', w', m', q'⟩ := o.go w1
  exact k v' H' G' _ ρ1 w' (m1.trans m') (q'.back m1.dm) z1
section
variable {X : Cx} {b : Bas} {ea eb : Expr} {ta tb : TD} {pos : Pos}
theorem d_op {op : Operator} {r : R2} {g : D → D → Option Z} (ho : OpR X (binaryOp op) r) (hr : Op2 X.K r g) (ha : PD X b ea ta) (hb : PD X b eb tb) : PD X b (.BinOp ea op eb pos) (wOp g ta tb) :=
  pe_weak (pe_op ho ha hb) fun _ _ _ q => op_go hr q
theorem d_un {op : UnaryOp} {r : V → Hp → VK → Prop} {g : D → Option Z} (ho : UnR X (unaryOp op) r) (hr : Op1 X.K r g) (ha : PD X b ea ta) : PD X b (.UnaryOp op ea pos) (wUn g ta) :=
  pe_weak (pe_un ho ha) fun _ _ _ q => un_go hr q
theorem d_cmp {op : CmpOp} {r : R2} {g : D → D → Option Z} (ho : OpR X (compareOp op) r) (hr : Op2 X.K r g) (ha : PD X b ea ta) (hb : PD X b eb tb) (hm : behindInMarks op eb = false) : PD X b (.Compare ea [op] [eb] pos) (wOp g ta tb) :=
  pe_weak (pe_cmpR ho ha hb hm) fun _ _ _ q => op_go hr q
theorem d_ix {r : R2} {g : D → D → Option Z} (ho : IxR X r) (hr : Op2 X.K r g) (ha : PD X b ea ta) (hb : PD X b eb tb) (hs : PlainIx eb := by intro _ _; rfl) : PD X b (.Subscript ea eb pos) (wOp g ta tb) :=
  pe_weak (pe_ix ho ha hb hs) fun _ _ _ q => op_go hr q
end
end DL

set_option Elab.async false
set_option maxRecDepth 100000
set_option maxHeartbeats 4000000
/-! DL2: giving a slot's object up, tests, argument lists, statements, defs by promises over data. -/
namespace DL
open PySem PySem.Spec PyProof.Rows L2

/-! ### a slot's object given up -/
def frz (ks : List Nat) (r : R) (ρ : Rho) : Option (D × Rho) := match r with
  | .dat x => some (x, ρ)
  | .own o => some (o.d, ρ)
  | .bor i => if i ∈ ks then none else match ρ[i]? with
    | some (.own o) => some (o.d, ρ.set i (.dat o.d))
    | some (.dat x) => some (x, ρ)
    | _ => none
def frzs (ks : List Nat) : List R → Rho → Option (List D × Rho)
  | [], ρ => some ([], ρ)
  | r :: rs, ρ => (frz ks r ρ).bind fun p => (frzs ks rs p.2).map fun q => (p.1 :: q.1, q.2)

section
variable {K : PySem.W.Frag} {b : Bas} {σ : L2.St} {H G : Hp} {ρ : Rho}
theorem Rel.give {i : Nat} {o : Own} {a : Addr} {h : HO} (w : Rel K b σ H G ρ) (hr : ρ[i]? = some (.own o)) (ha : σ[i]? = some (some (.ref a))) (hh : H a = some h) (hk : ∀ p ∈ b.kp, p.1 ≠ i) :
    Rel K b σ H (upd G a h) (ρ.set i (.dat o.d)) ∧ Ex G (upd G a h) ∧ Rp K (upd G a h) (.ref a) o.d := by
  obtain ⟨a', h', q1, q2, q3, q4, q5⟩ := w.own i o hr
  have ea : a' = a := by rw [ha] at q1; cases q1; rfl
  subst ea
  have eh : h' = h := by rw [hh] at q2; cases q2; rfl
  subst eh
  have il : i < ρ.length := (List.getElem?_eq_some_iff.mp hr).1
  have e : Ex G (upd G a' h') := Ex.put q3
  have fz := q5.froz q3
  refine ⟨⟨w.sub.both hh, w.bas, w.gro.trans e, fun c h1 h2 => ?_, ?_, fun j d hj => ?_, fun j o' hj => ?_, fun j k o1 o2 c h1 h2 h3 h4 => ?_, fun p hp => ?_⟩, e, fz⟩
  · rw [upd_ne (fun z => h1 (by rw [z]; exact q4))]; exact w.prt c h1 h2
  · rw [List.length_set]; exact w.len
  · by_cases hji : j = i
    · subst hji
      rw [List.getElem?_set_self il] at hj
      cases hj
      exact ⟨_, ha, fz⟩
    · rw [List.getElem?_set_ne (Ne.symm hji)] at hj
      obtain ⟨v, z1, z2⟩ := w.dat j d hj
      exact ⟨v, z1, z2.up e⟩
  · by_cases hji : j = i
    · subst hji
      rw [List.getElem?_set_self il] at hj
      cases hj
    · rw [List.getElem?_set_ne (Ne.symm hji)] at hj
      obtain ⟨c, hc, z1, z2, z3, z4, z5⟩ := w.own j o' hj
      have hne : c ≠ a' := fun z => by subst z; exact hji (w.dis j i o' o c hj hr z1 ha)
      exact ⟨c, hc, z1, z2, by rw [upd_ne hne]; exact z3, z4, z5.up e⟩
  · have n1 : j ≠ i := fun z => by subst z; rw [List.getElem?_set_self il] at h1; cases h1
    have n2 : k ≠ i := fun z => by subst z; rw [List.getElem?_set_self il] at h2; cases h2
    rw [List.getElem?_set_ne (Ne.symm n1)] at h1
    rw [List.getElem?_set_ne (Ne.symm n2)] at h2
    exact w.dis j k o1 o2 c h1 h2 h3 h4
  · obtain ⟨z1, o', z2⟩ := w.kep p hp
    exact ⟨z1, o', by rw [List.getElem?_set_ne (Ne.symm (hk p hp))]; exact z2⟩
theorem Rel.frz {ks : List Nat} {r : R} {v : V} {d : D} {ρ0 ρ' : Rho} {J Z : Hp} (w : Rel K b σ H G ρ) (hk : b.kp.map (·.1) = ks) (m : Fm σ ρ0 J Z ρ H G) (q : Rv K b σ J H G ρ v r) (e : DL.frz ks r ρ = some (d, ρ')) :
    ∃ G', Rel K b σ H G' ρ' ∧ Fm σ ρ0 J Z ρ' H G' ∧ Ex G G' ∧ Rp K G' v d ∧ (G' = G ∨ ∃ a h, v = .ref a ∧ G' = upd G a h ∧ ((∃ o, r = .own o) ∨ ∃ i o, r = .bor i ∧ ρ[i]? = some (.own o))) ∧ ∀ (i : Nat) (o' : Own), ρ'[i]? = some (.own o') → ρ[i]? = some (.own o') := by
  cases r with
  | dat x =>
    cases e
    exact ⟨G, w, m, Ex.refl G, q, .inl rfl, fun _ _ h => h⟩
  | own o =>
    cases e
    obtain ⟨a, h, rfl, h1, h2, h3, h4, h5, h6⟩ := q
    have x : Ex G (upd G a h) := Ex.put h2
    refine ⟨upd G a h, w.froz h1 h2 h3 h5, ⟨m.ex.trans x, fun c u z n => ?_, m.ow, m.dm⟩, x, h4.froz h2, .inr ⟨a, h, rfl, rfl, .inl ⟨o, rfl⟩⟩, fun _ _ h => h⟩
    · obtain ⟨y1, y2⟩ := m.kp c u z n
      exact ⟨y1, fun y => by rw [upd_ne (ne_of_none z h6)]; exact y2 y⟩
  | bor i =>
    have q' : σ[i]? = some (some v) := q
    unfold DL.frz at e
    dsimp only at e
    split at e
    · cases e
    · rename_i hi
      split at e
      · rename_i o ho
        cases e
        obtain ⟨a, h, h1, h2, h3, h4, h5⟩ := w.own i o ho
        rw [h1] at q'
        cases q'
        have il : i < ρ.length := (List.getElem?_eq_some_iff.mp ho).1
        have sub : ∀ (j : Nat) (o' : Own), (ρ.set i (.dat o.d))[j]? = some (.own o') → ρ[j]? = some (.own o') := fun j o' z => by
          by_cases hj : j = i
          · subst hj; rw [List.getElem?_set_self il] at z; cases z
          · rw [List.getElem?_set_ne (Ne.symm hj)] at z; exact z
        have x : Ex G (upd G a h) := Ex.put h3
        refine ⟨upd G a h, (w.give ho h1 h2 fun p hp z => hi ?_).1, ⟨m.ex.trans x, fun c u z n => ?_, fun j o' z => m.ow j o' (sub j o' z), m.dm⟩, x, h5.froz h3, .inr ⟨a, h, rfl, rfl, .inr ⟨i, o, rfl, ho⟩⟩, sub⟩
        · rw [← hk, ← z]
          exact List.mem_map_of_mem hp
        · obtain ⟨y1, y2⟩ := m.kp c u z n
          refine ⟨y1, fun y => ?_⟩
          have hne : c ≠ a := fun ca => by
            subst ca
            obtain ⟨o0, ho0⟩ := m.ow i o ho
            exact n i o0 ho0 h1
          rw [upd_ne hne]; exact y2 y
      · rename_i x hx
        cases e
        obtain ⟨u, h1, h2⟩ := w.dat i _ hx
        rw [h1] at q'
        cases q'
        exact ⟨G, w, m, Ex.refl G, h2, .inl rfl, fun _ _ h => h⟩
      · cases e
theorem RvA.up {vs : List V} {rs : List R} {J H' G' : Hp} {ρ' : Rho} (m : Fm σ ρ H G ρ' H' G') (q : RvA K b σ J H G ρ vs rs) : RvA K b σ J H' G' ρ' vs rs := by
  induction q with
  | nil => exact .nil
  | cons h1 h2 _ ih => exact .cons (h1.stay m) h2 ih
/-- the other answers, behind a giving-up -/
theorem Rv.past {J : Hp} {G' : Hp} {ρ' : Rho} {u : V} {r : R} (x : Ex G G') (s : ∀ (i : Nat) (o' : Own), ρ'[i]? = some (.own o') → ρ[i]? = some (.own o'))
    (d : ∀ (a : Addr) (o : Own), r = .own o → u = .ref a → G' a = none) (q : Rv K b σ J H G ρ u r) : Rv K b σ J H G' ρ' u r := by
  cases r with
  | dat y => exact Rp.up x q
  | bor i => exact q
  | own o =>
    obtain ⟨a, h, rfl, h1, h2, h3, h4, h5, h6⟩ := q
    exact ⟨a, h, rfl, h1, d a o rfl rfl, h3, h4.up x, fun i o' z => h5 i o' (s i o' z), h6⟩
theorem RvA.past {J : Hp} {G' : Hp} {ρ' : Rho} (x : Ex G G') (s : ∀ (i : Nat) (o' : Own), ρ'[i]? = some (.own o') → ρ[i]? = some (.own o')) :
    ∀ {vs : List V} {rs : List R}, RvA K b σ J H G ρ vs rs → (∀ (a : Addr) (j : Nat) (o' : Own), rs[j]? = some (.own o') → vs[j]? = some (.ref a) → G' a = none) → RvA K b σ J H G' ρ' vs rs
  | _, _, .nil, _ => .nil
  | _, _, .cons h1 h2 h3, d => .cons (h1.past x s fun a o e1 e2 => d a 0 o (by rw [e1]; rfl) (by rw [e2]; rfl)) h2 (RvA.past x s h3 fun a j o' z1 z2 => d a (j + 1) o' z1 z2)
theorem RvA.backA {J J' : Hp} (h : ∀ a, J a = none → J' a = none) : ∀ {vs : List V} {rs : List R}, RvA K b σ J H G ρ vs rs → RvA K b σ J' H G ρ vs rs
  | _, _, .nil => .nil
  | _, _, .cons h1 h2 h3 => .cons (h1.back h) h2 (RvA.backA h h3)
theorem RvA.at {J : Hp} : ∀ {vs : List V} {rs : List R}, RvA K b σ J H G ρ vs rs → ∀ {j : Nat} {r : R} {v : V}, rs[j]? = some r → vs[j]? = some v → Rv K b σ J H G ρ v r
  | _, _, .nil, j, r, v, h, _ => by simp at h
  | _, _, .cons h1 _ _, 0, r, v, e1, e2 => by cases e1; cases e2; exact h1
  | _, _, .cons _ _ h3, j + 1, r, v, e1, e2 => RvA.at h3 (j := j) (by simpa using e1) (by simpa using e2)
theorem Rel.frzs {ks : List Nat} (hk : b.kp.map (·.1) = ks) {ρ0 : Rho} {J Z : Hp} : ∀ {rs : List R} {vs : List V} {ds : List D} {G : Hp} {ρ ρ' : Rho}, Rel K b σ H G ρ → Fm σ ρ0 J Z ρ H G → RvA K b σ J H G ρ vs rs → DL.frzs ks rs ρ = some (ds, ρ') →
    ∃ G', Rel K b σ H G' ρ' ∧ Fm σ ρ0 J Z ρ' H G' ∧ RpA K G' vs ds ∧ Ex G G'
  | [], vs, ds, G, ρ, ρ', w, m, q, e => by
    cases q
    cases e
    exact ⟨G, w, m, .nil, Ex.refl G⟩
  | r :: rs, vs, ds, G, ρ, ρ', w, m, q, e => by
    cases q with
    | cons q1 q2 q3 =>
      rename_i v vs
      unfold DL.frzs at e
      cases e1 : DL.frz ks r ρ with
      | none => rw [e1] at e; cases e
      | some p =>
        obtain ⟨d, ρ1⟩ := p
        rw [e1] at e
        obtain ⟨G1, w1, m1, x1, r1, n1, s1⟩ := w.frz hk m q1 e1
        have e' : Option.map (fun q : List D × Rho => (d :: q.1, q.2)) (DL.frzs ks rs ρ1) = some (ds, ρ') := e
        cases e2 : DL.frzs ks rs ρ1 with
        | none => rw [e2] at e'; cases e'
        | some p2 =>
          obtain ⟨ds2, ρ2⟩ := p2
          rw [e2] at e'
          cases e'
          have q3' : RvA K b σ J H G1 ρ1 vs rs := q3.past x1 s1 fun a j o' z1 z2 => by
            obtain ⟨c, h, y1, y2, y3, y4, y5, y6, y7⟩ := q3.at z1 z2
            cases y1
            rcases n1 with rfl | ⟨c, h', rfl, rfl, ⟨o, rfl⟩ | ⟨i, o, rfl, ho⟩⟩
            · exact y3
            · rw [upd_ne (fun y => q2 c o rfl rfl j o' z1 (by rw [z2, y]))]; exact y3
            · rw [upd_ne (fun y => y6 i o ho (by rw [y]; exact q1))]; exact y3
          obtain ⟨G2, w2, m2, r2, x2⟩ := Rel.frzs hk w1 m1 q3' e2
          exact ⟨G2, w2, m2, .cons (r1.up x2) r2, x1.trans x2⟩
end

/-! ### truth, tests -/
def truD : D → Option Bool
  | .non => some false
  | .bl c => some c
  | .int i => some (i != 0)
  | .str x => if x.length ≤ sizeLine then some ((x.length : Int) != 0) else none
  | .lst l => some (!l.isEmpty)
  | .tup l => some (!l.isEmpty)
  | .wt l => some (!l.isEmpty)
  | .ty _ => none
  | .cls _ => none
  | .dct l => some (!l.isEmpty)
  | .ins _ _ => none
  | .fzl l => some (!l.isEmpty)
theorem RpA.len {K : PySem.W.Frag} {G : Hp} : ∀ {xs : List V} {ds : List D}, RpA K G xs ds → xs.length = ds.length
  | _, _, .nil => rfl
  | _, _, .cons _ r => congrArg (· + 1) r.len
theorem RpK.len {K : PySem.W.Frag} {G : Hp} : ∀ {xs : List (Key × V)} {ds : List (Key × D)}, RpK K G xs ds → xs.length = ds.length
  | _, _, .nil => rfl
  | _, _, .cons _ r => congrArg (· + 1) r.len
theorem RpA.empty {K : PySem.W.Frag} {G : Hp} {xs : List V} {ds : List D} (r : RpA K G xs ds) : ds.isEmpty = xs.isEmpty := by cases r <;> rfl
theorem RpK.empty {K : PySem.W.Frag} {G : Hp} {xs : List (Key × V)} {ds : List (Key × D)} (r : RpK K G xs ds) : ds.isEmpty = xs.isEmpty := by cases r <;> rfl
theorem truD_ok {K : PySem.W.Frag} {H G : Hp} {v : V} {d : D} {c : Bool} (e : Ex G H) (r : Rc K H G v d) (h : truD d = some c) : TruV K v H c := by
  rcases r with r | ⟨a, h', o, rfl, h1, r, rfl⟩
  · cases r with
    | non => cases h; exact rfl
    | bl b => cases h; exact rfl
    | int i => cases h; exact rfl
    | str x =>
      unfold truD at h
      dsimp only at h
      split at h
      · rename_i hl
        cases h
        exact ⟨hl, rfl⟩
      · cases h
    | lst q r => cases h; exact .inl ⟨_, SqL.of (e _ _ q), by rw [r.empty]⟩
    | fzl q r => cases h; exact .inl ⟨_, e.sql q, by rw [r.empty]⟩
    | tup q r => cases h; exact .inr (.inl ⟨_, e.sqt q.1, by rw [r.empty]⟩)
    | wt q r => cases h; exact .inr (.inl ⟨_, e.sqt q, by rw [r.empty]⟩)
    | dct q r => cases h; exact .inr (.inr ⟨_, e _ _ q, by rw [r.empty]⟩)
    | ins q r => cases h
    | ty n => cases h
    | cls C => cases h
  · cases r with
    | lst r => cases h; exact .inl ⟨_, .inl (.inl h1), by rw [r.empty]⟩
    | dct r => cases h; exact .inr (.inr ⟨_, h1, by rw [r.empty]⟩)
    | ins r => cases h
def wTr (ta : TD) : TTD := fun ρ Q => ta ρ fun r ρ1 => lk (con ρ1 r) fun d => lk (truD d) fun c => Q c ρ1
def wAnd (t u : TTD) : TTD := fun ρ Q => t ρ fun c ρ1 => if c = true then u ρ1 Q else Q false ρ1
def wOr (t u : TTD) : TTD := fun ρ Q => t ρ fun c ρ1 => if c = true then Q true ρ1 else u ρ1 Q
def wNot (t : TTD) : TTD := fun ρ Q => t ρ fun c ρ1 => Q (!c) ρ1
def wIf (t : TTD) (ta tb : TD) : TD := fun ρ Q => t ρ fun c ρ1 => if c = true then ta ρ1 Q else tb ρ1 Q
def bD : D → Option Bool
  | .bl c => some c
  | _ => none
def wAndV (ta tb : TD) : TD := fun ρ Q => ta ρ fun r ρ1 => lk ((con ρ1 r).bind bD) fun c => if c = true then tb ρ1 Q else Q (.dat (.bl false)) ρ1
def wOrV (ta tb : TD) : TD := fun ρ Q => ta ρ fun r ρ1 => lk ((con ρ1 r).bind bD) fun c => if c = true then Q (.dat (.bl true)) ρ1 else tb ρ1 Q
def wNotV (ta : TD) : TD := fun ρ Q => ta ρ fun r ρ1 => lk ((con ρ1 r).bind bD) fun c => Q (.dat (.bl (!c))) ρ1
theorem bD_ok {K : PySem.W.Frag} {b : Bas} {σ : L2.St} {J H G : Hp} {ρ : Rho} {v : V} {r : R} {c : Bool} (w : Rel K b σ H G ρ) (q : Rv K b σ J H G ρ v r) (h : (con ρ r).bind bD = some c) : v = .bl c := by
  cases e : con ρ r with
  | none => rw [e] at h; cases h
  | some d =>
    rw [e] at h
    have h' : bD d = some c := h
    cases d <;> cases h'
    rcases q.rc w e with r | ⟨a, h', o, rfl, h1, r, z⟩
    · cases r; rfl
    · cases o <;> cases z
section
variable {X : Cx} {b : Bas} {ea eb ec : Expr} {ta tb : TD} {tt tu : TTD} {pos : Pos} {rest : List Expr}
abbrev PWD (X : Cx) (b : Bas) (e : Expr) (td : TTD) : Prop := PW X e (liftT X.K b td)
theorem pw_weak {e : Expr} {t t' : TT} (h : PW X e t) (w : ∀ σ H Q, t' σ H Q → t σ H Q) : PW X e t' := ⟨fun wh pins s σ H Q I q => h.run wh pins s σ H Q I (w σ H Q q)⟩
theorem t_tr (ha : PD X b ea ta) (he : ∀ whole, isTrue ea X.env whole = (do let v ← whole; standAt ea.pos; holding [v] (truthy v)) := by intro _; rfl) : PTD X b ea (wTr ta) := pt_weak (pt_truth ha he) fun σ H Q q => by
  obtain ⟨G, ρ, QD, w, q, k⟩ := q
  refine ⟨G, ρ, _, w, q, fun v H1 G1 r ρ1 w1 e1 q1 z => ?_⟩
  obtain ⟨d, c1, z⟩ := lk_get z
  obtain ⟨c, c2, z⟩ := lk_get z
  exact ⟨c, truD_ok w1.sub (q1.rc w1 c1) c2, k c H1 G1 ρ1 w1 e1 z⟩
theorem and_go {K : PySem.W.Frag} {σ : L2.St} {H : Hp} {Q : Bool → Hp → Prop} (q : liftT K b (wAnd tt tu) σ H Q) : tAnd (liftT K b tt) (liftT K b tu) σ H Q := by
  obtain ⟨G, ρ, QD, w, q, k⟩ := q
  refine ⟨G, ρ, _, w, q, fun c H1 G1 ρ1 w1 e1 z => ?_⟩
  cases c with
  | true =>
    rw [if_pos rfl] at z ⊢
    exact ⟨G1, ρ1, QD, w1, z, fun c H2 G2 ρ2 w2 e2 z2 => k c H2 G2 ρ2 w2 (e1.trans e2) z2⟩
  | false =>
    rw [if_neg Bool.false_ne_true] at z ⊢
    exact k false H1 G1 ρ1 w1 e1 z
theorem or_go {K : PySem.W.Frag} {σ : L2.St} {H : Hp} {Q : Bool → Hp → Prop} (q : liftT K b (wOr tt tu) σ H Q) : tOr (liftT K b tt) (liftT K b tu) σ H Q := by
  obtain ⟨G, ρ, QD, w, q, k⟩ := q
  refine ⟨G, ρ, _, w, q, fun c H1 G1 ρ1 w1 e1 z => ?_⟩
  cases c with
  | true =>
    rw [if_pos rfl] at z ⊢
    exact k true H1 G1 ρ1 w1 e1 z
  | false =>
    rw [if_neg Bool.false_ne_true] at z ⊢
    exact ⟨G1, ρ1, QD, w1, z, fun c H2 G2 ρ2 w2 e2 z2 => k c H2 G2 ρ2 w2 (e1.trans e2) z2⟩
theorem tw_and1 (ha : PTD X b ea tt) : PWD X b (.BoolOp .And [ea] pos) tt := pw_and1 ha
theorem tw_or1 (ha : PTD X b ea tt) : PWD X b (.BoolOp .Or [ea] pos) tt := pw_or1 ha
theorem tw_and (ha : PTD X b ea tt) (hb : PWD X b (.BoolOp .And (eb :: rest) pos) tu) : PWD X b (.BoolOp .And (ea :: eb :: rest) pos) (wAnd tt tu) := pw_weak (pw_and ha hb) fun _ _ _ q => and_go q
theorem tw_or (ha : PTD X b ea tt) (hb : PWD X b (.BoolOp .Or (eb :: rest) pos) tu) : PWD X b (.BoolOp .Or (ea :: eb :: rest) pos) (wOr tt tu) := pw_weak (pw_or ha hb) fun _ _ _ q => or_go q
theorem t_w (h : PWD X b ea tt) : PTD X b ea tt := h.pt
theorem t_not (ha : PTD X b ea tt) : PTD X b (.UnaryOp .Not ea pos) (wNot tt) := pt_weak (pt_not ha) fun σ H Q q => by
  obtain ⟨G, ρ, QD, w, q, k⟩ := q
  exact ⟨G, ρ, _, w, q, fun c H1 G1 ρ1 w1 e1 z => k _ H1 G1 ρ1 w1 e1 z⟩
theorem d_if (hc : PTD X b ec tt) (ha : PD X b ea ta) (hb : PD X b eb tb) : PD X b (.IfExp ec ea eb pos) (wIf tt ta tb) := pe_weak (pe_ifExp hc ha hb) fun σ H Q q => by
  obtain ⟨G, ρ, QD, w, q, k⟩ := q
  refine ⟨G, ρ, _, w, q, fun c H1 G1 ρ1 w1 e1 z => ?_⟩
  cases c with
  | true =>
    rw [if_pos rfl] at z ⊢
    exact ⟨G1, ρ1, QD, w1, z, fun v H2 G2 r ρ2 w2 e2 q2 z2 => k v H2 G2 r ρ2 w2 (e1.trans e2) (q2.back e1.dm) z2⟩
  | false =>
    rw [if_neg Bool.false_ne_true] at z ⊢
    exact ⟨G1, ρ1, QD, w1, z, fun v H2 G2 r ρ2 w2 e2 q2 z2 => k v H2 G2 r ρ2 w2 (e1.trans e2) (q2.back e1.dm) z2⟩
theorem d_one {op : BoolOp} (h : PD X b ea ta) : PD X b (.BoolOp op [ea] pos) ta := pe_one h
theorem d_and (ha : PD X b ea ta) (hb : PD X b (.BoolOp .And (eb :: rest) pos) tb) : PD X b (.BoolOp .And (ea :: eb :: rest) pos) (wAndV ta tb) := pe_weak (pe_and ha hb) fun σ H Q q => by
  obtain ⟨G, ρ, QD, w, q, k⟩ := q
  refine ⟨G, ρ, _, w, q, fun v H1 G1 r ρ1 w1 e1 q1 z => ?_⟩
  obtain ⟨c, c1, z⟩ := lk_get z
  refine ⟨c, bD_ok w1 q1 c1, ?_⟩
  cases c with
  | true =>
    rw [if_pos rfl] at z ⊢
    exact ⟨G1, ρ1, QD, w1, z, fun v H2 G2 r ρ2 w2 e2 q2 z2 => k v H2 G2 r ρ2 w2 (e1.trans e2) (q2.back e1.dm) z2⟩
  | false =>
    rw [if_neg Bool.false_ne_true] at z ⊢
    exact k _ H1 G1 (.dat (.bl false)) ρ1 w1 e1 (.bl false) z
theorem d_or (ha : PD X b ea ta) (hb : PD X b (.BoolOp .Or (eb :: rest) pos) tb) : PD X b (.BoolOp .Or (ea :: eb :: rest) pos) (wOrV ta tb) := pe_weak (pe_or ha hb) fun σ H Q q => by
  obtain ⟨G, ρ, QD, w, q, k⟩ := q
  refine ⟨G, ρ, _, w, q, fun v H1 G1 r ρ1 w1 e1 q1 z => ?_⟩
  obtain ⟨c, c1, z⟩ := lk_get z
  refine ⟨c, bD_ok w1 q1 c1, ?_⟩
  cases c with
  | true =>
    rw [if_pos rfl] at z ⊢
    exact k _ H1 G1 (.dat (.bl true)) ρ1 w1 e1 (.bl true) z
  | false =>
    rw [if_neg Bool.false_ne_true] at z ⊢
    exact ⟨G1, ρ1, QD, w1, z, fun v H2 G2 r ρ2 w2 e2 q2 z2 => k v H2 G2 r ρ2 w2 (e1.trans e2) (q2.back e1.dm) z2⟩
theorem d_not (ha : PD X b ea ta) : PD X b (.UnaryOp .Not ea pos) (wNotV ta) := pe_weak (pe_not ha) fun σ H Q q => by
  obtain ⟨G, ρ, QD, w, q, k⟩ := q
  refine ⟨G, ρ, _, w, q, fun v H1 G1 r ρ1 w1 e1 q1 z => ?_⟩
  obtain ⟨c, c1, z⟩ := lk_get z
  exact ⟨c, bD_ok w1 q1 c1, k _ H1 G1 (.dat (.bl (!c))) ρ1 w1 e1 (.bl _) z⟩
/-- a chain of two comparisons -/
def wChain (g g' : D → D → Option Z) (ta tb tc : TD) : TD := fun ρ Q => ta ρ fun r1 ρ1 => tb ρ1 fun r2 ρ2 => lk (con ρ2 r1) fun d1 => lk (con ρ2 r2) fun d2 => lk (g d1 d2) fun z =>
  match z with
  | .d (.bl c) => if c = true then tc ρ2 fun r3 ρ3 => lk (con ρ3 r2) fun d2' => lk (con ρ3 r3) fun d3 => lk (g' d2' d3) fun z' => Q z'.r ρ3 else Q (.dat (.bl false)) ρ2
  | _ => False
theorem chain_go {K : PySem.W.Frag} {r r' : R2} {g g' : D → D → Option Z} (hg : Op2 K r g) (hg' : Op2 K r' g') {ta tb tc : TD} {σ : L2.St} {H : Hp} {Q : VK} (q : lift K b (wChain g g' ta tb tc) σ H Q) : tChain r r' (lift K b ta) (lift K b tb) (lift K b tc) σ H Q := by
  obtain ⟨G, ρ, QD, w, q, k⟩ := q
  refine ⟨G, ρ, _, w, q, fun v H1 G1 r1 ρ1 w1 e1 q1 z => ?_⟩
  refine ⟨G1, ρ1, _, w1, z, fun u H2 G2 r2 ρ2 w2 e2 q2 z => ?_⟩
  obtain ⟨d1, c1, z⟩ := lk_get z
  obtain ⟨d2, c2, z⟩ := lk_get z
  obtain ⟨y, cy, z⟩ := lk_get z
  have a1 : Rc K H2 G2 v d1 := (q1.stay e2).rc w2 c1
  refine hg H2 G2 v u d1 d2 y _ w2.sub a1 (q2.rc w2 c2) cy fun v' H' o => ?_
  split at z
  · rename_i c
    obtain ⟨rfl, o⟩ := o
    cases o
    refine ⟨c, rfl, ?_⟩
    cases c with
    | true =>
      rw [if_pos rfl] at z ⊢
      refine ⟨G2, ρ2, _, w2, z, fun t H3 G3 r3 ρ3 w3 e3 q3 z => ?_⟩
      obtain ⟨d2', c2', z⟩ := lk_get z
      obtain ⟨d3, c3, z⟩ := lk_get z
      obtain ⟨y', cy', z⟩ := lk_get z
      have a2 : Rc K H3 G3 u d2' := (q2.stay e3).rc w3 c2'
      refine hg' H3 G3 u t d2' d3 y' Q w3.sub a2 (q3.rc w3 c3) cy' fun v' H' o => ?_
      obtain ⟨G', w', e', q'⟩ := o.go w3
      exact k v' H' G' _ ρ3 w' (((e1.trans e2).trans e3).trans e') (q'.back ((e1.trans e2).trans e3).dm) z
    | false =>
      rw [if_neg Bool.false_ne_true] at z ⊢
      exact k _ H' G2 (.dat (.bl false)) ρ2 w2 (e1.trans e2) (.bl false) z
  · exact z.elim
theorem d_chain {op op' : CmpOp} {r r' : R2} {g g' : D → D → Option Z} {tc : TD} (ho : OpR X (compareOp op) r) (ho' : OpR X (compareOp op') r') (hg : Op2 X.K r g) (hg' : Op2 X.K r' g') (ha : PD X b ea ta) (hb : PD X b eb tb) (hc : PD X b ec tc)
    (hm : lastMarks [op, op'] [eb, ec] = false := by with_unfolding_all rfl) : PD X b (.Compare ea [op, op'] [eb, ec] pos) (wChain g g' ta tb tc) := pe_weak (pe_chain ho ho' ha hb hc hm) fun _ _ _ q => chain_go hg hg' q
end

/-! ### argument lists, displays -/
/-- a new tuple, its object known -/
def NewT (H : Hp) (xs : List V) (Q : VK) : Prop := ∀ p o, o.dict = none → H p = none → Q (.ref p) (upd H p (.frz o (.tup xs)))
theorem laidT {X : Cx} {pins : List (Addr × Obj)} {σ : L2.St} {H : Hp} {s : Shared} {xs : List V} {its : List Value} {Q : VK} (I : Inv X pins σ H s) (r : Vals xs its) (hz : xs.length ≤ sizeLine) (q : NewT H xs Q) :
    EP X pins σ Q (.ref s.heap.objs.size) { s with heap := s.heap.push { cls := .type "tuple", data := .seq its.toArray } } :=
  ⟨.ref s.heap.objs.size, _, I.laid (t' := s.toks) (o := .frz { cls := .type "tuple", data := .seq its.toArray } (.tup xs)) (fun b u e => Heap.get?_push_of_some _ e) (Nat.le_refl _) ⟨Heap.get?_push_size _ rfl, hz, its, r, IsTup.new _ _⟩, rfl, q _ _ rfl (I.hok.fresh (Nat.le_refl _))⟩
def tTupP (t : TA) : TE := fun σ H Q => t σ H fun xs H1 => xs.length ≤ sizeLine ∧ NewT H1 xs Q
theorem pe_tupP {X : Cx} {es : List Expr} {t : TA} {pos : Pos} {x1} (h : PA X es t) : PE X (.Tuple es x1 pos) (tTupP t) := by
  refine ⟨fun pins s σ H Q I hq => ?_⟩
  exact wpAny_Tuple_spliced (thn (h.run pos pins s σ H _ I hq) fun us s1 ⟨xs, H1, I1, r, z, q⟩ => ⟨by rw [← r.length]; exact z, laidT I1 r z q⟩)
def wNil : TAD := fun ρ Q => Q [] ρ
def wCons (ta : TD) (tr : TAD) : TAD := fun ρ Q => ta ρ fun r ρ1 => tr ρ1 fun rs ρ2 => Q (r :: rs) ρ2
def wTup (ks : List Nat) (t : TAD) : TD := fun ρ Q => t ρ fun rs ρ1 => lk (frzs ks rs ρ1) fun p => p.1.length ≤ sizeLine ∧ Q (.dat (.tup p.1)) p.2
def wLst (ks : List Nat) (t : TAD) : TD := fun ρ Q => t ρ fun rs ρ1 => lk (frzs ks rs ρ1) fun p => p.1.length ≤ sizeLine ∧ Q (.own (.lst p.1)) p.2
section
variable {X : Cx} {b : Bas} {e : Expr} {es : List Expr} {ta : TD} {t : TAD} {pos : Pos} {ks : List Nat}
theorem a_nil : PAD X b [] wNil := pa_weak pa_nil fun σ H Q q => by
  obtain ⟨G, ρ, QD, w, q, k⟩ := q
  exact k [] H G [] ρ w (Fm.refl σ ρ H G) .nil q
theorem a_cons (ha : PD X b e ta) (hr : PAD X b es t) (hs : starEach (e :: es) X.env = (false, eval e X.env) :: starEach es X.env := by rfl) : PAD X b (e :: es) (wCons ta t) := pa_weak (pa_cons ha hr hs) fun σ H Q q => by
  obtain ⟨G, ρ, QD, w, q, k⟩ := q
  refine ⟨G, ρ, _, w, q, fun v H1 G1 r ρ1 w1 m1 q1 z => ?_⟩
  refine ⟨G1, ρ1, _, w1, z, fun vs H2 G2 rs ρ2 w2 m2 q2 z => ?_⟩
  refine k (v :: vs) H2 G2 (r :: rs) ρ2 w2 (m1.trans m2) (.cons (q1.stay m2) (fun a o e1 e2 j o' z1 z2 => ?_) (RvA.backA m1.dm q2)) z
  subst e1
  obtain ⟨c, h, y1, y2, _⟩ := q1
  rw [e2] at y1
  cases y1
  obtain ⟨c', h', x1, _, _, _, _, _, x7⟩ := q2.at z1 z2
  cases x1
  rw [y2] at x7; cases x7
theorem d_tup {x1} (hk : b.kp.map (·.1) = ks) (h : PAD X b es t) : PD X b (.Tuple es x1 pos) (wTup ks t) := pe_weak (pe_tupP h) fun σ H Q q => by
  obtain ⟨G, ρ, QD, w, q, k⟩ := q
  refine ⟨G, ρ, _, w, q, fun vs H1 G1 rs ρ1 w1 e1 q1 z => ?_⟩
  obtain ⟨p, c1, hl, z⟩ := lk_get z
  obtain ⟨ds, ρ2⟩ := p
  obtain ⟨G2, w2, m2, r2, _⟩ := Rel.frzs hk w1 e1 q1 c1
  refine ⟨by rw [r2.len]; exact hl, fun p o ho hp => ?_⟩
  have x : Ex G2 (upd G2 p (.frz o (.tup vs))) := Ex.put (w2.sub.gone hp)
  exact k _ _ _ (.dat (.tup ds)) ρ2 (w2.newD hp) (m2.trans (w2.newFD hp)) (.tup (SqP.new ho) (r2.up x)) z
theorem d_lst (hk : b.kp.map (·.1) = ks) (h : PAD X b es t) : PD X b (.List es pos) (wLst ks t) := pe_weak (pe_lst h) fun σ H Q q => by
  obtain ⟨G, ρ, QD, w, q, k⟩ := q
  refine ⟨G, ρ, _, w, q, fun vs H1 G1 rs ρ1 w1 e1 q1 z => ?_⟩
  obtain ⟨p, c1, hl, z⟩ := lk_get z
  obtain ⟨ds, ρ2⟩ := p
  obtain ⟨G2, w2, m2, r2, _⟩ := Rel.frzs hk w1 e1 q1 c1
  refine ⟨by rw [r2.len]; exact hl, fun p hp => ?_⟩
  exact k _ _ G2 (.own (.lst ds)) ρ2 (w2.new hp) (m2.trans (w2.newF hp)) ⟨p, _, rfl, upd_same, w2.sub.gone hp, w2.bas.gone hp, .lst r2, w2.apart hp, m2.dm p hp⟩ z
end
end DL

set_option Elab.async false
set_option maxRecDepth 100000
set_option maxHeartbeats 4000000
/-! DL3: statements, targets, loops, list comprehensions over data. -/
namespace DL
open PySem PySem.Spec PyProof.Rows L2

/-! ### slots stored -/
def R.sl : R → Sl
  | .dat d => .dat d
  | .own o => .own o
  | .bor _ => .no
/-- a slot's object that is handed on is given up -/
def thin (ks : List Nat) (r : R) (ρ : Rho) : Option (R × Rho) := match r with
  | .bor i => (frz ks (.bor i) ρ).map fun p => (.dat p.1, p.2)
  | r => some (r, ρ)
def thins (ks : List Nat) : List R → Rho → Option (List R × Rho)
  | [], ρ => some ([], ρ)
  | r :: rs, ρ => (thin ks r ρ).bind fun p => (thins ks rs p.2).map fun q => (p.1 :: q.1, q.2)
def NoB (r : R) : Prop := ∀ i, r ≠ .bor i
theorem nob_dat (d : D) : NoB (.dat d) := fun i z => by cases z
theorem nob_own (o : Own) : NoB (.own o) := fun i z => by cases z
def setV : List Nat → List V → L2.St → L2.St
  | i :: is, v :: vs, σ => setV is vs (σ.set i (some v))
  | _, _, σ => σ
def setR : List Nat → List R → Rho → Rho
  | i :: is, r :: rs, ρ => setR is rs (ρ.set i r.sl)
  | _, _, ρ => ρ
theorem set_at {α : Type} {l : List α} {i j : Nat} {x y : α} (h : (l.set i x)[j]? = some y) : (j = i ∧ y = x ∧ i < l.length) ∨ (j ≠ i ∧ l[j]? = some y) := by
  by_cases hj : j = i
  · subst hj
    have hl : j < l.length := by
      have := (List.getElem?_eq_some_iff.mp h).1
      rw [List.length_set] at this
      exact this
    rw [List.getElem?_set_self hl] at h
    cases h
    exact .inl ⟨rfl, rfl, hl⟩
  · rw [List.getElem?_set_ne (Ne.symm hj)] at h
    exact .inr ⟨hj, h⟩
theorem set_ne {α : Type} {l : List α} {i j : Nat} {x : α} (h : j ≠ i) : (l.set i x)[j]? = l[j]? := List.getElem?_set_ne (Ne.symm h)
theorem set_eq {α : Type} {l : List α} {i : Nat} {x : α} (h : i < l.length) : (l.set i x)[i]? = some x := List.getElem?_set_self h

section
variable {K : PySem.W.Frag} {b : Bas} {σ : L2.St} {H G : Hp} {ρ : Rho}
/-- a slot is stored: data, or a new object -/
theorem Rel.set {i : Nat} {v : V} {r : R} {J : Hp} (w : Rel K b σ H G ρ) (q : Rv K b σ J H G ρ v r) (hr : NoB r) (hk : ∀ p ∈ b.kp, p.1 ≠ i) : Rel K b (σ.set i (some v)) H G (ρ.set i r.sl) := by
  have len : σ.length = ρ.length := w.len
  refine ⟨w.sub, w.bas, w.gro, w.prt, by rw [List.length_set, List.length_set]; exact len, fun j d hj => ?_, fun j o hj => ?_, fun j k o1 o2 c h1 h2 h3 h4 => ?_, fun p hp => ?_⟩
  · rcases set_at hj with ⟨rfl, e, hl⟩ | ⟨hn, hj⟩
    · cases r with
      | dat x => cases e; exact ⟨v, set_eq (by omega), q⟩
      | own o => cases e
      | bor k => cases e
    · obtain ⟨u, z1, z2⟩ := w.dat j d hj
      exact ⟨u, by rw [set_ne hn]; exact z1, z2⟩
  · rcases set_at hj with ⟨rfl, e, hl⟩ | ⟨hn, hj⟩
    · cases r with
      | dat x => cases e
      | bor k => cases e
      | own o' =>
        cases e
        obtain ⟨a, h, rfl, h1, h2, h3, h4, h5, h6⟩ := q
        exact ⟨a, h, set_eq (by omega), h1, h2, h3, h4⟩
    · obtain ⟨a, h, z1, z2⟩ := w.own j o hj
      exact ⟨a, h, by rw [set_ne hn]; exact z1, z2⟩
  · rcases set_at h1 with ⟨rfl, e, hl⟩ | ⟨hn, y1⟩ <;> rcases set_at h2 with ⟨rfl, e', hl'⟩ | ⟨hn', y2⟩
    · rfl
    · rw [set_eq (by omega)] at h3
      rw [set_ne hn'] at h4
      cases r with
      | dat x => cases e
      | bor k => cases e
      | own o' =>
        obtain ⟨a, h, rfl, q1, q2, q3, q4, q5, q6⟩ := q
        cases h3
        exact absurd h4 (q5 k o2 y2)
    · rw [set_eq (by omega)] at h4
      rw [set_ne hn] at h3
      cases r with
      | dat x => cases e'
      | bor k => cases e'
      | own o' =>
        obtain ⟨a, h, rfl, q1, q2, q3, q4, q5, q6⟩ := q
        cases h4
        exact absurd h3 (q5 j o1 y1)
    · rw [set_ne hn] at h3
      rw [set_ne hn'] at h4
      exact w.dis j k o1 o2 c y1 y2 h3 h4
  · obtain ⟨z1, o, z2⟩ := w.kep p hp
    exact ⟨by rw [set_ne (hk p hp)]; exact z1, o, by rw [set_ne (hk p hp)]; exact z2⟩
/-- the other answers behind a store -/
theorem Rv.set {i : Nat} {v u : V} {r r' : R} {J : Hp} (q : Rv K b σ J H G ρ u r') (hr : NoB r') (p : Rv K b σ J H G ρ v r) (hp : NoB r) (len : σ.length = ρ.length)
    (d : ∀ (a : Addr) (o o' : Own), r = .own o → v = .ref a → r' = .own o' → u ≠ .ref a) : Rv K b (σ.set i (some v)) J H G (ρ.set i r.sl) u r' := by
  cases r' with
  | dat x => exact q
  | bor j => exact absurd rfl (hr j)
  | own o' =>
    obtain ⟨a, h, rfl, h1, h2, h3, h4, h5, h6⟩ := q
    refine ⟨a, h, rfl, h1, h2, h3, h4, fun j o z y => ?_, h6⟩
    rcases set_at z with ⟨rfl, e, hl⟩ | ⟨hn, z⟩
    · rw [set_eq (by omega)] at y
      cases y
      cases r with
      | dat x => cases e
      | bor k => cases e
      | own o1 => exact d a o1 o' rfl rfl rfl rfl
    · rw [set_ne hn] at y
      exact h5 j o z y
theorem RvA.set {i : Nat} {v : V} {r : R} {J : Hp} (p : Rv K b σ J H G ρ v r) (hp : NoB r) (len : σ.length = ρ.length) : ∀ {vs : List V} {rs : List R}, RvA K b σ J H G ρ vs rs → (∀ r ∈ rs, NoB r) →
    (∀ (a : Addr) (o : Own), r = .own o → v = .ref a → ∀ (j : Nat) (o' : Own), rs[j]? = some (.own o') → vs[j]? ≠ some (.ref a)) → RvA K b (σ.set i (some v)) J H G (ρ.set i r.sl) vs rs
  | _, _, .nil, _, _ => .nil
  | _, _, .cons h1 h2 h3, n, d => .cons (h1.set (n _ List.mem_cons_self) p hp len fun a o o' e1 e2 e3 e4 => d a o e1 e2 0 o' (by rw [e3]; rfl) (by rw [e4]; rfl)) h2
      (RvA.set p hp len h3 (fun r hr => n r (List.mem_cons_of_mem _ hr)) fun a o e1 e2 j o' z => d a o e1 e2 (j + 1) o' z)
theorem Rel.sets {J : Hp} : ∀ {is : List Nat} {vs : List V} {rs : List R} {σ : L2.St} {ρ : Rho}, Rel K b σ H G ρ → RvA K b σ J H G ρ vs rs → (∀ r ∈ rs, NoB r) → (∀ i ∈ is, ∀ p ∈ b.kp, p.1 ≠ i) → Rel K b (setV is vs σ) H G (setR is rs ρ)
  | [], _, _, σ, ρ, w, _, _, _ => by unfold setV setR; exact w
  | i :: is, _, _, σ, ρ, w, .nil, _, _ => by unfold setV setR; exact w
  | i :: is, _, _, σ, ρ, w, .cons h1 h2 h3, n, hk => by
    unfold setV setR
    exact Rel.sets (w.set h1 (n _ List.mem_cons_self) (hk i List.mem_cons_self)) (RvA.set h1 (n _ List.mem_cons_self) w.len h3 (fun r hr => n r (List.mem_cons_of_mem _ hr)) fun a o e1 e2 j o' z => h2 a o e1 e2 j o' z)
      (fun r hr => n r (List.mem_cons_of_mem _ hr)) fun j hj => hk j (List.mem_cons_of_mem _ hj)
theorem Rel.thin {ks : List Nat} {r r' : R} {v : V} {ρ' : Rho} {J : Hp} (w : Rel K b σ H G ρ) (hk : b.kp.map (·.1) = ks) (q : Rv K b σ J H G ρ v r) (e : DL.thin ks r ρ = some (r', ρ')) :
    ∃ G', Rel K b σ H G' ρ' ∧ Ex G G' ∧ Rv K b σ J H G' ρ' v r' ∧ NoB r' ∧ (G' = G ∨ ∃ a h, v = .ref a ∧ G' = upd G a h ∧ ∃ i o, r = .bor i ∧ ρ[i]? = some (.own o)) ∧ ∀ (i : Nat) (o' : Own), ρ'[i]? = some (.own o') → ρ[i]? = some (.own o') := by
  cases r with
  | dat x => cases e; exact ⟨G, w, Ex.refl G, q, nob_dat _, .inl rfl, fun _ _ z => z⟩
  | own o => cases e; exact ⟨G, w, Ex.refl G, q, nob_own _, .inl rfl, fun _ _ z => z⟩
  | bor i =>
    unfold DL.thin at e
    dsimp only at e
    cases e1 : DL.frz ks (.bor i) ρ with
    | none => rw [e1] at e; cases e
    | some p =>
      obtain ⟨d, ρ1⟩ := p
      rw [e1] at e
      cases e
      obtain ⟨G1, w1, m1, x1, r1, n1, s1⟩ := w.frz hk (Fm.refl σ ρ H G) (J := H) (v := v) (r := .bor i) q e1
      refine ⟨G1, w1, x1, r1, nob_dat _, ?_, s1⟩
      rcases n1 with z | ⟨a, h, z1, z2, ⟨o, z3⟩ | z3⟩
      · exact .inl z
      · cases z3
      · exact .inr ⟨a, h, z1, z2, z3⟩
theorem Rel.thins {ks : List Nat} (hk : b.kp.map (·.1) = ks) {J : Hp} : ∀ {rs rs' : List R} {vs : List V} {G : Hp} {ρ ρ' : Rho}, Rel K b σ H G ρ → RvA K b σ J H G ρ vs rs → DL.thins ks rs ρ = some (rs', ρ') →
    ∃ G', Rel K b σ H G' ρ' ∧ Ex G G' ∧ RvA K b σ J H G' ρ' vs rs' ∧ (∀ r ∈ rs', NoB r) ∧ (∀ (j : Nat) (o : Own), rs'[j]? = some (.own o) → rs[j]? = some (.own o)) ∧
      (∀ (i : Nat) (o' : Own), ρ'[i]? = some (.own o') → ρ[i]? = some (.own o')) ∧ ∀ a, G a = none → (∀ (i : Nat) (o : Own), ρ[i]? = some (.own o) → σ[i]? ≠ some (some (.ref a))) → G' a = none
  | [], rs', vs, G, ρ, ρ', w, q, e => by
    cases q
    cases e
    exact ⟨G, w, Ex.refl G, .nil, fun _ h => by simp at h, fun _ _ h => h, fun _ _ h => h, fun _ h _ => h⟩
  | r :: rs, rs', vs, G, ρ, ρ', w, q, e => by
    cases q with
    | cons q1 q2 q3 =>
      rename_i v vs
      unfold DL.thins at e
      cases e1 : DL.thin ks r ρ with
      | none => rw [e1] at e; cases e
      | some p =>
        obtain ⟨r1, ρ1⟩ := p
        rw [e1] at e
        obtain ⟨G1, w1, x1, p1, b1, n1, s1⟩ := w.thin hk q1 e1
        have e' : Option.map (fun q : List R × Rho => (r1 :: q.1, q.2)) (DL.thins ks rs ρ1) = some (rs', ρ') := e
        cases e2 : DL.thins ks rs ρ1 with
        | none => rw [e2] at e'; cases e'
        | some p2 =>
          obtain ⟨rs2, ρ2⟩ := p2
          rw [e2] at e'
          cases e'
          have g1 : ∀ a, G a = none → (∀ (i : Nat) (o : Own), ρ[i]? = some (.own o) → σ[i]? ≠ some (some (.ref a))) → G1 a = none := fun a h n => by
            rcases n1 with rfl | ⟨c, h', rfl, rfl, i, o, rfl, ho⟩
            · exact h
            · rw [upd_ne (fun y => n i o ho (by rw [y]; exact q1))]; exact h
          have q3' : RvA K b σ J H G1 ρ1 vs rs := q3.past x1 s1 fun a j o' z1 z2 => by
            obtain ⟨c, h, y1, y2, y3, y4, y5, y6, y7⟩ := q3.at z1 z2
            cases y1
            exact g1 a y3 y6
          obtain ⟨G2, w2, x2, p2, b2, t2, s2, g2⟩ := Rel.thins hk w1 q3' e2
          have rown : ∀ o, r1 = .own o → r = .own o := fun o z => by
            cases r with
            | dat x => cases e1; exact z
            | own o => cases e1; exact z
            | bor i =>
              unfold DL.thin at e1
              dsimp only at e1
              cases e3 : DL.frz ks (.bor i) ρ with
              | none => rw [e3] at e1; cases e1
              | some p => rw [e3] at e1; cases e1; cases z
          refine ⟨G2, w2, x1.trans x2, .cons (p1.past x2 s2 fun a o z1 z2 => ?_) (fun a o z1 z2 j o' z3 => q2 a o (rown o z1) z2 j o' (t2 j o' z3)) p2, fun r' hr' => ?_, fun j o z => ?_, fun i o z => s1 i o (s2 i o z), fun a h n => ?_⟩
          · subst z1
            obtain ⟨c, h, y1, y2, y3, y4, y5, y6, y7⟩ := p1
            rw [z2] at y1
            cases y1
            exact g2 a y3 y6
          · rcases List.mem_cons.mp hr' with rfl | hr'
            · exact b1
            · exact b2 r' hr'
          · cases j with
            | zero => cases z; exact congrArg some (rown o rfl)
            | succ j => exact t2 j o z
          · exact g2 a (g1 a h n) fun i o z => n i o (s1 i o z)
end

/-! ### small statements -/
def wNext : SD := fun DD ρ => DD.nx ρ
def wSeq (s t : SD) : SD := fun DD ρ => s { DD with nx := t DD } ρ
def wBreak : SD := fun DD ρ => DD.bk ρ
def wCont : SD := fun DD ρ => DD.ct ρ
def wDrop (ta : TD) : SD := fun DD ρ => ta ρ fun _ ρ1 => DD.nx ρ1
def wRetN : SD := fun DD ρ => DD.rt (.dat .non) ρ
/-- what is handed back: a slot's object goes with it -/
def outR (ks : List Nat) (r : R) (ρ : Rho) (Q : R → Rho → Prop) : Prop := match r with
  | .bor i => if i ∈ ks then False else match ρ[i]? with
    | some (.own o) => Q (.own o) (ρ.set i .no)
    | some (.dat d) => Q (.dat d) ρ
    | _ => False
  | r => Q r ρ
def wRet (ks : List Nat) (ta : TD) : SD := fun DD ρ => ta ρ fun r ρ1 => outR ks r ρ1 DD.rt
def wIfS (t : TTD) (s u : SD) : SD := fun DD ρ => t ρ fun c ρ1 => if c = true then s DD ρ1 else u DD ρ1
def wAsg (ks : List Nat) (i : Nat) (ta : TD) : SD := fun DD ρ => ta ρ fun r ρ1 => if i ∈ ks then False else lk (thin ks r ρ1) fun p => DD.nx (p.2.set i p.1.sl)
/-- i, j = a, b of plain names -/
def wPar (ks is : List Nat) (ta : TAD) : SD := fun DD ρ => ta ρ fun rs ρ1 => (∀ i ∈ is, i ∉ ks) ∧ rs.length = is.length ∧ lk (thins ks rs ρ1) fun p => DD.nx (setR is p.1 p.2)
section
variable {X : Cx} {b : Bas} {ks : List Nat} {e : Expr} {es : List Expr} {st : Stmt} {rest body els : List Stmt} {ta : TD} {tt : TTD} {s t : SD} {tl : TAD} {pos : Pos}
theorem ss_nil : PSsD X b [] wNext := pss_weak pss_nil fun D σ H q => by
  obtain ⟨G, ρ, DD, w, q, n, _⟩ := q
  exact n σ H G ρ w (Ex.refl G) q
theorem ss_cons (h1 : PSD X b st s) (h2 : PSsD X b rest t) : PSsD X b (st :: rest) (wSeq s t) := pss_weak (pss_cons h1 h2) fun D σ H q => by
  obtain ⟨G, ρ, DD, w, q, n, r, bk, ct⟩ := q
  refine ⟨G, ρ, { DD with nx := t DD }, w, q, fun σ' H' G' ρ' w' x q' => ?_, r, bk, ct⟩
  exact ⟨G', ρ', DD, w', q', fun σ2 H2 G2 ρ2 w2 x2 => n σ2 H2 G2 ρ2 w2 (x.trans x2), fun v σ2 H2 G2 r2 ρ2 J w2 x2 => r v σ2 H2 G2 r2 ρ2 J w2 (x.trans x2), fun σ2 H2 G2 ρ2 w2 x2 => bk σ2 H2 G2 ρ2 w2 (x.trans x2), fun σ2 H2 G2 ρ2 w2 x2 => ct σ2 H2 G2 ρ2 w2 (x.trans x2)⟩
theorem ss_one (h1 : PSD X b st s) : PSsD X b [st] s := pss_one h1
theorem s_pass : PSD X b (.Pass pos) wNext := ps_weak ps_pass fun D σ H q => by
  obtain ⟨G, ρ, DD, w, q, n, _⟩ := q
  exact n σ H G ρ w (Ex.refl G) q
theorem s_break : PSD X b (.Break pos) wBreak := ps_weak ps_break fun D σ H q => by
  obtain ⟨G, ρ, DD, w, q, n, r, bk, _⟩ := q
  exact bk σ H G ρ w (Ex.refl G) q
theorem s_cont : PSD X b (.Continue pos) wCont := ps_weak ps_continue fun D σ H q => by
  obtain ⟨G, ρ, DD, w, q, n, r, bk, ct⟩ := q
  exact ct σ H G ρ w (Ex.refl G) q
theorem s_expr (he : PD X b e ta) (hs : swapsWith e none pos.line X.env = pure false := by rfl) : PSD X b (.Expr e pos) (wDrop ta) := ps_weak (ps_expr he hs) fun D σ H q => by
  obtain ⟨G, ρ, DD, w, q, n, _⟩ := q
  exact ⟨G, ρ, _, w, q, fun v H1 G1 r ρ1 w1 m1 q1 z => n σ H1 G1 ρ1 w1 m1.ex z⟩
theorem s_retN : PSD X b (.Return none pos) wRetN := ps_weak ps_retN fun D σ H q => by
  obtain ⟨G, ρ, DD, w, q, n, r, _⟩ := q
  exact r .non σ H G (.dat .non) ρ H w (Ex.refl G) .non q
theorem Rel.lose {K : PySem.W.Frag} {σ : L2.St} {H G : Hp} {ρ : Rho} {i : Nat} (w : Rel K b σ H G ρ) (hk : ∀ p ∈ b.kp, p.1 ≠ i) : Rel K b σ H G (ρ.set i .no) := by
  refine ⟨w.sub, w.bas, w.gro, w.prt, by rw [List.length_set]; exact w.len, fun j d hj => ?_, fun j o hj => ?_, fun j k o1 o2 c h1 h2 => ?_, fun p hp => ?_⟩
  · rcases set_at hj with ⟨rfl, e, hl⟩ | ⟨hn, hj⟩
    · cases e
    · exact w.dat j d hj
  · rcases set_at hj with ⟨rfl, e, hl⟩ | ⟨hn, hj⟩
    · cases e
    · exact w.own j o hj
  · rcases set_at h1 with ⟨rfl, e, hl⟩ | ⟨hn, h1⟩
    · cases e
    · rcases set_at h2 with ⟨rfl, e', hl'⟩ | ⟨hn', h2⟩
      · cases e'
      · exact w.dis j k o1 o2 c h1 h2
  · obtain ⟨z1, o, z2⟩ := w.kep p hp
    exact ⟨z1, o, by rw [set_ne (hk p hp)]; exact z2⟩
theorem s_ret (hk : b.kp.map (·.1) = ks) (he : PD X b e ta) : PSD X b (.Return (some e) pos) (wRet ks ta) := ps_weak (ps_ret he) fun D σ H q => by
  obtain ⟨G, ρ, DD, w, q, n, rt, _⟩ := q
  refine ⟨G, ρ, _, w, q, fun v H1 G1 r ρ1 w1 m1 q1 z => ?_⟩
  cases r with
  | dat d => exact rt v σ H1 G1 _ ρ1 H w1 m1.ex q1 z
  | own o => exact rt v σ H1 G1 _ ρ1 H w1 m1.ex q1 z
  | bor i =>
    unfold outR at z
    dsimp only at z
    split at z
    · exact z.elim
    · rename_i hi
      have hki : ∀ p ∈ b.kp, p.1 ≠ i := fun p hp e => hi (by rw [← hk, ← e]; exact List.mem_map_of_mem hp)
      have q1' : σ[i]? = some (some v) := q1
      split at z
      · rename_i o ho
        obtain ⟨a, h, h1, h2, h3, h4, h5⟩ := w1.own i o ho
        rw [h1] at q1'
        cases q1'
        refine rt _ σ H1 G1 (.own o) _ (fun _ => none) (w1.lose hki) m1.ex ⟨a, h, rfl, h2, h3, h4, h5, fun j o' z1 z2 => ?_, rfl⟩ z
        rcases set_at z1 with ⟨rfl, e, hl⟩ | ⟨hn, z1⟩
        · cases e
        · exact hn (w1.dis j i o' o a z1 ho z2 h1)
      · rename_i d hd
        obtain ⟨u, h1, h2⟩ := w1.dat i d hd
        rw [h1] at q1'
        cases q1'
        exact rt v σ H1 G1 (.dat d) ρ1 H w1 m1.ex h2 z
      · exact z.elim
theorem s_if {c : Expr} (hc : PTD X b c tt) (h1 : PSsD X b body s) (h2 : PSsD X b els t) : PSD X b (.If c body els pos) (wIfS tt s t) := ps_weak (ps_if hc h1 h2) fun D σ H q => by
  obtain ⟨G, ρ, DD, w, q, n, r, bk, ct⟩ := q
  refine ⟨G, ρ, _, w, q, fun c H1 G1 ρ1 w1 m1 z => ?_⟩
  have go : ∀ {u : SD}, u DD ρ1 → liftS X.K b u D σ H1 := fun {u} z => ⟨G1, ρ1, DD, w1, z, fun σ2 H2 G2 ρ2 w2 x2 => n σ2 H2 G2 ρ2 w2 (m1.ex.trans x2), fun v σ2 H2 G2 r2 ρ2 J w2 x2 => r v σ2 H2 G2 r2 ρ2 J w2 (m1.ex.trans x2),
    fun σ2 H2 G2 ρ2 w2 x2 => bk σ2 H2 G2 ρ2 w2 (m1.ex.trans x2), fun σ2 H2 G2 ρ2 w2 x2 => ct σ2 H2 G2 ρ2 w2 (m1.ex.trans x2)⟩
  cases c with
  | true => exact iteT (go z)
  | false => exact iteF (go z)
theorem asg_go {K : PySem.W.Frag} {i : Nat} (hk : b.kp.map (·.1) = ks) {D : Ends} {σ : L2.St} {H : Hp} (q : liftS K b (wAsg ks i ta) D σ H) : tAsg (lift K b ta) (gName i) D σ H := by
  obtain ⟨G, ρ, DD, w, q, n, _⟩ := q
  refine ⟨G, ρ, _, w, q, fun v H1 G1 r ρ1 w1 m1 q1 z => ?_⟩
  split at z
  · exact z.elim
  · rename_i hi
    obtain ⟨p, e1, z⟩ := lk_get z
    obtain ⟨r', ρ2⟩ := p
    obtain ⟨G2, w2, x2, p2, b2, _⟩ := w1.thin hk q1 e1
    exact n _ H1 G2 _ (w2.set p2 b2 fun p hp e => hi (by rw [← hk, ← e]; exact List.mem_map_of_mem hp)) (m1.ex.trans x2) z
theorem s_set {i : Nat} {x : Str} {pos' : Pos} (hk : b.kp.map (·.1) = ks) (hN : X.N.Nodup) (hi : X.N[i]? = some x) (hx : Loc X.env.scope x) (he : PD X b e ta) (hs : swapsWith e (some (.Name x pos')) pos.line X.env = pure false := by rfl)
    (hf : X.fn x = true ∨ X.env.scope.names.lookup x = some .local := by first | exact .inl rfl | exact .inr rfl | assumption) : PSD X b (.Assign [.Name x pos'] e pos) (wAsg ks i ta) :=
  ps_weak (ps_set hN hi hx he hs hf) fun _ _ _ q => asg_go hk q
theorem par_go {K : PySem.W.Frag} {is : List Nat} (hk : b.kp.map (·.1) = ks) {D : Ends} {σ : L2.St} {H : Hp} (q : liftS K b (wPar ks is tl) D σ H) : liftA K b tl σ H fun vs H1 => vs.length = is.length ∧ D.nx (setV is vs σ) H1 := by
  obtain ⟨G, ρ, DD, w, q, n, _⟩ := q
  refine ⟨G, ρ, _, w, q, fun vs H1 G1 rs ρ1 w1 m1 q1 z => ?_⟩
  obtain ⟨hi, hl, z⟩ := z
  obtain ⟨p, e1, z⟩ := lk_get z
  obtain ⟨rs', ρ2⟩ := p
  obtain ⟨G2, w2, x2, p2, b2, _⟩ := Rel.thins hk w1 q1 e1
  have len : ∀ {vs : List V} {rs : List R}, RvA K b σ H H1 G1 ρ1 vs rs → vs.length = rs.length := fun {vs rs} h => by
    induction h with
    | nil => rfl
    | cons _ _ _ ih => exact congrArg (· + 1) ih
  exact ⟨(len q1).trans hl, n _ H1 G2 _ (Rel.sets w2 p2 b2 fun i hm p hp e => hi i hm (by rw [← hk, ← e]; exact List.mem_map_of_mem hp)) (m1.ex.trans x2) z⟩
theorem s_par2 {i j : Nat} {x y : Str} {ea eb : Expr} {px py pt : Pos} {kt k2 pt2} (hk : b.kp.map (·.1) = ks) (hc : X.calm = true) (hN : X.N.Nodup) (hi : X.N[i]? = some x) (hj : X.N[j]? = some y) (hij : i ≠ j) (hx : X.env.scope.names.lookup x = some .local) (hy : X.env.scope.names.lookup y = some .local)
    (ha : PAD X b [ea, eb] tl) (hw : swappedStores [.Tuple [.Name x px, .Name y py] kt pt] (.Tuple [ea, eb] k2 pt2) X.env = pure (some [x, y]))
    (hs : swapsWithSole [.Tuple [.Name x px, .Name y py] kt pt] (.Tuple [ea, eb] k2 pt2) pos.line X.env = pure false := by rfl) :
    PSD X b (.Assign [.Tuple [.Name x px, .Name y py] kt pt] (.Tuple [ea, eb] k2 pt2) pos) (wPar ks [i, j] tl) :=
  ps_weak (ps_par hc hN hi hj hij hx hy ha hw hs) fun D σ H q => by
    obtain ⟨G, ρ, QD, w, q, k⟩ := par_go hk q
    refine ⟨G, ρ, QD, w, q, fun vs H1 G1 rs ρ1 w1 m1 q1 z => ?_⟩
    obtain ⟨hl, n⟩ := k vs H1 G1 rs ρ1 w1 m1 q1 z
    match vs, hl with
    | [v, u], _ => exact ⟨v, u, rfl, n⟩
end

/-! ### targets -/
abbrev GD := D → Rho → (Rho → Prop) → Prop
/-- is: the slots that are stored -/
def liftG (K : PySem.W.Frag) (b : Bas) (is : List Nat) (gd : GD) : TG := fun v σ H Q => ∃ G ρ d QD, Rel K b σ H G ρ ∧ Rp K G v d ∧ gd d ρ QD ∧
  ∀ σ' ρ', Rel K b σ' H G ρ' → σ'.length = σ.length → (∀ i, i ∉ is → σ'[i]? = σ[i]?) → (∀ i, i ∉ is → ρ'[i]? = ρ[i]?) → (∀ (i : Nat) (o : Own), ρ'[i]? = some (.own o) → ρ[i]? = some (.own o)) → QD ρ' → Q σ' H
def liftGs (K : PySem.W.Frag) (b : Bas) (is : List Nat) (gd : List D → Rho → (Rho → Prop) → Prop) : TGs := fun vs σ H Q => ∃ G ρ ds QD, Rel K b σ H G ρ ∧ RpA K G vs ds ∧ gd ds ρ QD ∧
  ∀ σ' ρ', Rel K b σ' H G ρ' → σ'.length = σ.length → (∀ i, i ∉ is → σ'[i]? = σ[i]?) → (∀ i, i ∉ is → ρ'[i]? = ρ[i]?) → (∀ (i : Nat) (o : Own), ρ'[i]? = some (.own o) → ρ[i]? = some (.own o)) → QD ρ' → Q σ' H
def hName (ks : List Nat) (i : Nat) : GD := fun d ρ Q => if i ∈ ks then False else Q (ρ.set i (.dat d))
def hNil : List D → Rho → (Rho → Prop) → Prop := fun ds ρ Q => ds = [] ∧ Q ρ
def hCons (g : GD) (r : List D → Rho → (Rho → Prop) → Prop) : List D → Rho → (Rho → Prop) → Prop := fun ds ρ Q => match ds with
  | [] => False
  | d :: ds => g d ρ fun ρ1 => r ds ρ1 Q
def hTup (n : Nat) (r : List D → Rho → (Rho → Prop) → Prop) : GD := fun d ρ Q => match d with
  | .tup ds => ds.length = n ∧ r ds ρ Q
  | .wt ds => ds.length = n ∧ r ds ρ Q
  | _ => False
section
variable {X : Cx} {b : Bas} {ks is js : List Nat} {pos : Pos}
theorem g_name {i : Nat} {x : Str} (hk : b.kp.map (·.1) = ks) (hN : X.N.Nodup) (hi : X.N[i]? = some x) (hx : Loc X.env.scope x) (hf : X.fn x = true ∨ X.env.scope.names.lookup x = some .local := by first | exact .inl rfl | exact .inr rfl | assumption) :
    PG X (.Name x pos) (liftG X.K b [i] (hName ks i)) := ⟨fun pins s σ H v u Q I r q => by
  refine (pg_name hN hi hx hf).run pins s σ H v u Q I r ?_
  obtain ⟨G, ρ, d, QD, w, q1, q2, k⟩ := q
  unfold hName at q2
  split at q2
  · exact q2.elim
  · rename_i hik
    have ne : ∀ {j : Nat}, j ∉ [i] → j ≠ i := fun {j} h e => h (by rw [e]; exact List.mem_singleton.mpr rfl)
    refine k _ _ (w.set (J := H) (r := .dat d) q1 (fun i z => by cases z) fun p hp e => hik (by rw [← hk, ← e]; exact List.mem_map_of_mem hp)) (by rw [List.length_set]) (fun j hj => set_ne (ne hj)) (fun j hj => set_ne (ne hj)) (fun j o hj => ?_) q2
    rcases set_at hj with ⟨rfl, e, hl⟩ | ⟨hn, hj⟩
    · cases e
    · exact hj⟩
theorem gs_nil : PGs X [] (liftGs X.K b [] hNil) := ⟨fun pins s σ H vs us Q I r q => by
  refine pgs_nil.run pins s σ H vs us Q I r ?_
  obtain ⟨G, ρ, ds, QD, w, q1, ⟨rfl, q2⟩, k⟩ := q
  cases q1
  exact ⟨rfl, k σ ρ w rfl (fun _ _ => rfl) (fun _ _ => rfl) (fun _ _ h => h) q2⟩⟩
theorem gs_cons {e : Expr} {es : List Expr} {g : GD} {gr : List D → Rho → (Rho → Prop) → Prop} (h1 : PG X e (liftG X.K b is g)) (h2 : PGs X es (liftGs X.K b js gr)) (hs : (assignEach (e :: es) X.env).map (·.2) = assign e X.env :: (assignEach es X.env).map (·.2) := by rfl) :
    PGs X (e :: es) (liftGs X.K b (is ++ js) (hCons g gr)) := ⟨fun pins s σ H vs us Q I r q => by
  refine (pgs_cons h1 h2 hs).run pins s σ H vs us Q I r ?_
  obtain ⟨G, ρ, ds, QD, w, q1, q2, k⟩ := q
  cases q1 with
  | nil => exact q2.elim
  | cons p1 p2 =>
    refine ⟨_, _, rfl, G, ρ, _, _, w, p1, q2, fun σ1 ρ1 w1 l1 y1 z1 n1 q3 => ?_⟩
    refine ⟨G, ρ1, _, QD, w1, p2, q3, fun σ2 ρ2 w2 l2 y2 z2 n2 q4 => ?_⟩
    exact k σ2 ρ2 w2 (l2.trans l1) (fun i hi => (y2 i fun h => hi (List.mem_append_right _ h)).trans (y1 i fun h => hi (List.mem_append_left _ h))) (fun i hi => (z2 i fun h => hi (List.mem_append_right _ h)).trans (z1 i fun h => hi (List.mem_append_left _ h))) (fun i o h => n1 i o (n2 i o h)) q4⟩
theorem g_tup {es : List Expr} {k n : Nat} {gr : List D → Rho → (Rho → Prop) → Prop} (hc : X.calm = true) (h : PGs X es (liftGs X.K b is gr)) (hn : (assignEach es X.env).length = n := by rfl) (hst : (assignEach es X.env).findIdx? (·.1) = none := by rfl) :
    PG X (.Tuple es k pos) (liftG X.K b is (hTup n gr)) := ⟨fun pins s σ H v u Q I r q => by
  refine (pg_tup hc h hn hst).run pins s σ H v u Q I r ?_
  obtain ⟨G, ρ, d, QD, w, q1, q2, k⟩ := q
  cases q1 with
  | tup p1 p2 => exact ⟨_, _, rfl, w.sub.sqt p1.1, p2.len.trans q2.1, G, ρ, _, QD, w, p2, q2.2, k⟩
  | wt p1 p2 => exact ⟨_, _, rfl, w.sub.sqt p1, p2.len.trans q2.1, G, ρ, _, QD, w, p2, q2.2, k⟩
  | non => exact q2.elim
  | bl c => exact q2.elim
  | int i => exact q2.elim
  | str x => exact q2.elim
  | lst p1 p2 => exact q2.elim
  | fzl p1 p2 => exact q2.elim
  | dct p1 p2 => exact q2.elim
  | ty n => exact q2.elim
  | cls C => exact q2.elim
  | ins p1 p2 => exact q2.elim⟩
end
/-- targets = value, the value data -/
def wUnp (ks : List Nat) (ta : TD) (g : GD) : SD := fun DD ρ => ta ρ fun r ρ1 => lk (frz ks r ρ1) fun p => g p.1 p.2 DD.nx
section
variable {X : Cx} {b : Bas} {ks is : List Nat} {e tg : Expr} {ta : TD} {pos : Pos}
theorem s_unp {g : GD} (hk : b.kp.map (·.1) = ks) (he : PD X b e ta) (hg : PG X tg (liftG X.K b is g)) (hs : swapsWithSole [tg] e pos.line X.env = pure false := by rfl) (hw : swappedStores [tg] e X.env = pure none := by rfl) (h1 : (assignEach [tg] X.env).map (·.2) = [assign tg X.env] := by rfl) :
    PSD X b (.Assign [tg] e pos) (wUnp ks ta g) := ps_weak (ps_asg he hg hs hw h1) fun D σ H q => by
  obtain ⟨G, ρ, DD, w, q, n, _⟩ := q
  refine ⟨G, ρ, _, w, q, fun v H1 G1 r ρ1 w1 m1 q1 z => ?_⟩
  obtain ⟨p, e1, z⟩ := lk_get z
  obtain ⟨d, ρ2⟩ := p
  obtain ⟨G2, w2, m2, x2, r2, _⟩ := w1.frz hk m1 q1 e1
  exact ⟨G2, ρ2, d, DD.nx, w2, r2, z, fun σ' ρ' w' _ _ _ _ z' => n σ' H1 G2 ρ' w' m2.ex z'⟩
end

/-! ### while -/
def whileN (t : TTD) (sb : SD) (DD : EndsD) : Nat → Rho → Prop
  | 0, _ => False
  | n + 1, ρ => t ρ fun c ρ1 => if c = true then sb { DD with nx := whileN t sb DD n, ct := whileN t sb DD n, bk := DD.nx } ρ1 else DD.nx ρ1
def wWhile (t : TTD) (sb : SD) : SD := fun DD ρ => ∃ n, whileN t sb DD n ρ
section
variable {X : Cx} {b : Bas} {c : Expr} {body : List Stmt} {tt : TTD} {s : SD} {pos : Pos}
theorem s_while (hp : PassesOwn (model X.prog X.w) X.A X.env X.xe) (hc : PTD X b c tt) (hb : PSsD X b body s) : PSD X b (.While c body [] pos) (wWhile tt s) := ps_weak (ps_while hp hc hb) fun D σ H q => by
  obtain ⟨G, ρ, DD, w, ⟨n0, q⟩, n, r, bk, ct⟩ := q
  refine ⟨fun m σ H => ∃ G1 ρ1, Rel X.K b σ H G1 ρ1 ∧ Ex G G1 ∧ whileN tt s DD m ρ1, ⟨n0, G, ρ, w, Ex.refl G, q⟩, fun m σ1 H1 q1 => ?_⟩
  obtain ⟨G1, ρ1, w1, x1, q1⟩ := q1
  cases m with
  | zero => exact q1.elim
  | succ m =>
    refine ⟨G1, ρ1, _, w1, q1, fun c H2 G2 ρ2 w2 m2 z => ?_⟩
    have x2 := x1.trans m2.ex
    cases c with
    | false => exact iteF (n σ1 H2 G2 ρ2 w2 x2 z)
    | true =>
      refine iteT ⟨fun σ' H' => ∃ G3 ρ3, Rel X.K b σ' H' G3 ρ3 ∧ Ex G G3 ∧ whileN tt s DD m ρ3, fun σ' H' h => ⟨m, Nat.lt_succ_self m, h⟩, ?_⟩
      exact ⟨G2, ρ2, _, w2, z, fun σ3 H3 G3 ρ3 w3 x3 z3 => ⟨G3, ρ3, w3, x2.trans x3, z3⟩, fun v σ3 H3 G3 r3 ρ3 J w3 x3 => r v σ3 H3 G3 r3 ρ3 J w3 (x2.trans x3), fun σ3 H3 G3 ρ3 w3 x3 z3 => n σ3 H3 G3 ρ3 w3 (x2.trans x3) z3, fun σ3 H3 G3 ρ3 w3 x3 z3 => ⟨G3, ρ3, w3, x2.trans x3, z3⟩⟩
end

/-! ### for -/
/-- what an iterator yields: these data -/
def ItD (K : PySem.W.Frag) (J : It) (ds : List D) (G : Hp) : Prop := ∀ (i : Nat) (H G1 : Hp), Ex G G1 → Ex G1 H → (∀ d, ds[i]? = some d → J.go i H ∧ ∀ x H', J.yld i H x H' → ∃ z, z.r = .dat d ∧ Out K H G1 x H' z) ∧ (ds.length ≤ i → J.stop i H)
abbrev TID := Rho → (List D → Rho → Prop) → Prop
def liftI (K : PySem.W.Frag) (b : Bas) (ti : TID) : TI := fun σ H R => ∃ G ρ QD, Rel K b σ H G ρ ∧ ti ρ QD ∧
  ∀ J H' G' ds ρ', Rel K b σ H' G' ρ' → Fm σ ρ H G ρ' H' G' → ItD K J ds G' → QD ds ρ' → R J H'
def forL (g : GD) (sb : SD) (DD : EndsD) : List D → Rho → Prop
  | [], ρ => DD.nx ρ
  | d :: ds, ρ => g d ρ fun ρ1 => sb { DD with nx := forL g sb DD ds, ct := forL g sb DD ds, bk := DD.nx } ρ1
def wFor (ti : TID) (g : GD) (sb : SD) : SD := fun DD ρ => ti ρ fun ds ρ1 => forL g sb DD ds ρ1
theorem drop_at {α : Type} {l : List α} {i : Nat} {x : α} (h : l[i]? = some x) : l.drop i = x :: l.drop (i + 1) := by
  obtain ⟨hl, e⟩ := List.getElem?_eq_some_iff.mp h
  rw [List.drop_eq_getElem_cons hl, e]
section
variable {X : Cx} {b : Bas} {ks is : List Nat} {iter tg : Expr} {body : List Stmt} {ti : TID} {g : GD} {s : SD} {pos : Pos}
theorem s_for (hp : PassesOwn (model X.prog X.w) X.A X.env X.xe) (hc : X.calm = true) (hi : PI X tg iter (liftI X.K b ti)) (hg : PG X tg (liftG X.K b is g)) (hb : PSsD X b body s) (hs : ∀ x, foldedSetIterable iter X.env x = pure x := by intro _; rfl) :
    PSD X b (.For tg iter body [] pos) (wFor ti g s) := ps_weak (ps_for hp hc hi hg hb hs) fun D σ H q => by
  obtain ⟨G, ρ, DD, w, q, n, r, bk, ct⟩ := q
  refine ⟨G, ρ, _, w, q, fun J H1 G1 ds ρ1 w1 m1 it z => ?_⟩
  refine ⟨fun i m σ H => m = ds.length - i ∧ ∃ G2 ρ2, Rel X.K b σ H G2 ρ2 ∧ Ex G1 G2 ∧ forL g s DD (ds.drop i) ρ2, ⟨ds.length, (Nat.sub_zero _).symm, G1, ρ1, w1, Ex.refl G1, z⟩, fun i m σ2 H2 q2 => ?_⟩
  obtain ⟨rfl, G2, ρ2, w2, x2, z2⟩ := q2
  have x02 := m1.ex.trans x2
  cases e : ds[i]? with
  | none =>
    have hl : ds.length ≤ i := List.getElem?_eq_none_iff.mp e
    rw [List.drop_eq_nil_of_le hl] at z2
    exact .inl ⟨(it i H2 G2 x2 w2.sub).2 hl, n σ2 H2 G2 ρ2 w2 x02 z2⟩
  | some d =>
    rw [drop_at e] at z2
    obtain ⟨g1, g2⟩ := (it i H2 G2 x2 w2.sub).1 d e
    have hl : i < ds.length := (List.getElem?_eq_some_iff.mp e).1
    refine .inr ⟨g1, fun σ H => ∃ G3 ρ3, Rel X.K b σ H G3 ρ3 ∧ Ex G1 G3 ∧ forL g s DD (ds.drop (i + 1)) ρ3, fun σ' H' h => ⟨ds.length - (i + 1), by omega, rfl, h⟩, fun x H' y => ?_⟩
    obtain ⟨zz, ez, o⟩ := g2 x H' y
    obtain ⟨G3, w3, m3, q3⟩ := o.go w2
    rw [ez] at q3
    refine ⟨G3, ρ2, d, _, w3, q3, z2, fun σ' ρ' w' _ _ _ _ z' => ?_⟩
    have x3 := x2.trans m3.ex
    have x03 := m1.ex.trans x3
    exact ⟨G3, ρ', _, w', z', fun σ4 H4 G4 ρ4 w4 x4 z4 => ⟨G4, ρ4, w4, x3.trans x4, z4⟩, fun v σ4 H4 G4 r4 ρ4 J w4 x4 => r v σ4 H4 G4 r4 ρ4 J w4 (x03.trans x4), fun σ4 H4 G4 ρ4 w4 x4 z4 => n σ4 H4 G4 ρ4 w4 (x03.trans x4) z4, fun σ4 H4 G4 ρ4 w4 x4 z4 => ⟨G4, ρ4, w4, x3.trans x4, z4⟩⟩
end
end DL

set_option Elab.async false
set_option maxRecDepth 100000
set_option maxHeartbeats 4000000
/-! DL4: promises over data, calls; comprehensions; objects that are changed. -/
namespace DL
open PySem PySem.Spec PyProof.Rows L2

/-! ### a def, called where no repr is under way -/
structure FnG (P : Program) (w : World) (K : PySem.W.Frag) (mg : Str → Option Value) (base : Heap) (CX : CXT) (k : Nat) (f : Addr) (fd : FuncData) (ps : List Str) (sp : Sp) : Prop where
  len : ∀ xs G Q E, sp xs G Q E → xs.length = ps.length
  run : ∀ (A : Around) (out : List Env) (st : Shared) (G : Hp) (ar : Args) (us : List Value) (xs : List V) (Q : VK) (E : XK), Room k A → A.guards = some [] → Env0 P w K mg base A out st G →
    BindsTo st fd ar (ps.zip us) → Vals xs us → sp xs G Q E → codeAny (model P w) A (.call (.ref f) ar) (CR CX out P w G st Q E) st
theorem FnG.more {P : Program} {w : World} {K : PySem.W.Frag} {mg : Str → Option Value} {base : Heap} {CX : CXT} {j k : Nat} {f : Addr} {fd : FuncData} {ps : List Str} {sp : Sp} (F : FnG P w K mg base CX j f fd ps sp) (h : j ≤ k) : FnG P w K mg base CX k f fd ps sp :=
  ⟨F.len, fun A out st G ar us xs Q E r => F.run A out st G ar us xs Q E (r.mono h)⟩
theorem FnG.less {P : Program} {w : World} {K : PySem.W.Frag} {mg : Str → Option Value} {base : Heap} {CX : CXT} {k : Nat} {f : Addr} {fd : FuncData} {ps : List Str} {sp sp' : Sp} (F : FnG P w K mg base CX k f fd ps sp) (h : ∀ xs G Q E, sp' xs G Q E → sp xs G Q E) : FnG P w K mg base CX k f fd ps sp' :=
  ⟨fun xs G Q E q => F.len xs G Q E (h xs G Q E q), fun A out st G ar us xs Q E r g e b v q => F.run A out st G ar us xs Q E r g e b v (h xs G Q E q)⟩
section
variable {P : Program} {w : World} {K : PySem.W.Frag} {mg : Str → Option Value} {base : Heap}
/-- a def keeps its promise if its body does -/
theorem fnG_mk {CX : CXT} {k : Nat} {x qual : Str} {st : Stmt} {f : Addr} {fd : FuncData} {N ps : List Str} {sp : Sp} (F : Fun K x qual st f fd) (S : FnScope N ps (defScope st)) (len : ∀ xs G Q E, sp xs G Q E → xs.length = ps.length)
    (body : ∀ (cdv : Value) (A : Around) (out : List Env) (s0 : Shared) (G : Hp) (xs : List V) (Q : VK) (E : XK), Room k (A.deeper (envOfC qual (defScope st) s0.heap.objs.size f cdv)) → A.guards = some [] → sp xs G Q E →
      ∃ t, PSs (cxOf CX P w K mg base N qual (defScope st) f cdv A out s0 G E) (defBody st) t ∧ t { nx := fun _ G' => Q .non G', rt := Q } (start N xs) G) : FnG P w K mg base CX (k + 1) f fd ps sp := by
  obtain ⟨c0, d0, e1, e2, e3, a0, cv, t0, z0, rfl, look, code⟩ := F.ex
  refine ⟨len, fun A out s0 G ar us xs Q E room grd env bind vals want => ?_⟩
  have count := len _ _ _ _ want
  have inn : K.In s0.heap := env.mod.kin.keeps fun p u z => (env.bs p u z).1
  have free : s0.heap.NoLimit := env.mod.nolimit.keeps fun p u z => (env.bs p u z).1
  refine codeAny_call_function room.depth (inn _ _ look) rfl S.co S.gen rfl (PySem.W.codeRec_of inn code) (bind _ _ _ _ ?_)
  refine wpAny_newFunctionEnv_cells S.kind (fun y hy => ?_) fun en hen s1 ic => ?_
  · rcases S.par y.1 (List.of_mem_zip (show (y.1, y.2) ∈ ps.zip us from hy)).1 with z | z
    · exact .inl z
    · exact .inr ⟨z, PySem.W.cellsFrom_some _ _ _ (.inl z)⟩
  · subst hen
    refine ⟨free.keeps ic.toInCall.keep, codeAny_func ?_⟩
    obtain ⟨t, deriv, holds⟩ := body cv A out s0 G xs Q E (room.deeper _) grd want
    have inv : Inv (cxOf CX P w K mg base N qual (defScope st) f cv A out s0 G E) [] (start N xs) G s1 := inv_start S room.hd env count vals ic
    have fin : ∀ {s2 : Shared} {σ2 : L2.St} {G2 : Hp} {v : V} {u : Value}, Inv (cxOf CX P w K mg base N qual (defScope st) f cv A out s0 G E) [] σ2 G2 s2 → RelV v u → Q v G2 → CE out P w G s0 Q u s2 :=
      fun {s2 σ2 G2 v u} i2 rv q2 => ⟨v, G2, i2.os, i2.bare, i2.base, i2.hok, rv, q2⟩
    refine wpAny_mono (deriv.run [] s1 _ G _ inv holds) (fun flow s2 out2 => ?_) fun _ _ h => h
    cases flow with
    | brk => obtain ⟨_, _, _, no⟩ := out2; exact no.elim
    | cont => obtain ⟨_, _, _, no⟩ := out2; exact no.elim
    | next =>
      obtain ⟨σ2, G2, i2, q2⟩ := out2
      exact fin (v := V.non) (u := Value.none) i2 rfl q2
    | ret u =>
      obtain ⟨v, σ2, G2, i2, rv, q2⟩ := out2
      exact fin i2 rv q2
end
section
variable {X : Cx} {CX : CXT} {k : Nat} {f C : Addr} {fd : FuncData} {ps : List Str} {sp : Sp} {E : XK} {x : Str} {p pos : Pos} {e : Expr} {es : List Expr} {t : TA}
theorem runG {pins : List (Addr × Obj)} {σ : L2.St} {H : Hp} {s : Shared} {Q : VK} {us : List Value} {xs : List V} (F : FnG X.prog X.w X.K X.mg X.base CX k f fd ps sp) (room : Room k X.A) (grd : X.A.guards = some []) (bind : Binds X.K fd ps []) (pass : Passes CX X E)
    (inv : Inv X pins σ H s) (vals : Vals xs us) (want : sp xs H Q E) : wpAny (model X.prog X.w) X.A (call (.ref f) us) (EP X pins σ Q) X.xe s := by
  have count : (us ++ []).length = ps.length := by rw [List.append_nil, ← vals.length]; exact F.len _ _ _ _ want
  have b2 := bind s us inv.kIn count
  rw [List.append_nil] at b2
  refine wpAny_call (codeAny_mono (F.run X.A X.stack s H ⟨us, []⟩ us xs Q E room grd inv.env0 b2 vals want) fun res s2 out => ?_)
  match res, out with
  | .ok (.ret u), h => exact inv.after h
  | .ok .next, h => exact h.elim
  | .ok .brk, h => exact h.elim
  | .ok .cont, h => exact h.elim
  | .error ex, h => exact pass pins σ H s ex s2 inv h
def tCallG (sp : Sp) (E : XK) (t : TA) : TE := fun σ H Q => t σ H fun vs H1 => sp vs H1 Q E
theorem pe_callG (F : FnG X.prog X.w X.K X.mg X.base CX k f fd ps sp) (room : Room k X.A) (grd : X.A.guards = some []) (hg : Gl X x) (hm : X.mg x = some (.ref f)) (kept : PySem.W.keepIn X.K (.ref f) = true) (bind : Binds X.K fd ps []) (pass : Passes CX X E)
    (args : PA X (e :: es) t) (hd : (x == ("__debug__" : Str)) = false := by decide) (hs : starEach (e :: es) X.env = (false, eval e X.env) :: starEach es X.env := by rfl) (hp : (backTo pos (starEach es X.env)).any (·.1) = false := by rfl) :
    PE X (.Call (.Name x p) (e :: es) [] pos) (tCallG sp E t) := by
  constructor
  intro pins s σ H Q inv q
  refine wpAny_Call_Name_kw (ld_glob inv hg hm (PySem.W.callWith_K (h₀ := X.base) inv.ok.mod.kin kept (thn (args.run pos pins s σ H _ inv q) fun us s1 h => ?_) hs hp) hd)
  obtain ⟨xs, H1, inv1, vals, want⟩ := h
  exact ⟨inv1.kIn, runG F room grd bind pass inv1 vals want⟩
theorem pe_callG0 (F : FnG X.prog X.w X.K X.mg X.base CX k f fd ps sp) (room : Room k X.A) (grd : X.A.guards = some []) (hg : Gl X x) (hm : X.mg x = some (.ref f)) (kept : PySem.W.keepIn X.K (.ref f) = true) (bind : Binds X.K fd ps []) (pass : Passes CX X E)
    (hd : (x == ("__debug__" : Str)) = false := by decide) : PE X (.Call (.Name x p) [] [] pos) (tCallG sp E tNil) := by
  constructor
  intro pins s σ H Q inv q
  exact wpAny_Call_Name_kw (ld_glob inv hg hm (PySem.W.callWith_K0 inv.kIn kept (runG (us := []) F room grd bind pass inv .nil q)) hd)
end

/-! ### promises over data -/
/-- an exception: its class, its own dict -/
structure Xc where
  C : Addr
  l : Option (List (Str × D))
abbrev DSp := List Sl → (R → List Sl → Prop) → (Xc → List Sl → Prop) → Prop
def RSl (K : PySem.W.Frag) (H G : Hp) (v : V) : Sl → Prop
  | .no => False
  | .dat d => Rp K G v d
  | .own o => ∃ a h, v = .ref a ∧ H a = some h ∧ G a = none ∧ RpO K G h o
inductive RSls (K : PySem.W.Frag) (H G : Hp) : List V → List Sl → Prop
  | nil : RSls K H G [] []
  | cons {v : V} {vs : List V} {s : Sl} {ss : List Sl} : RSl K H G v s → RSls K H G vs ss → RSls K H G (v :: vs) (s :: ss)
/-- the parameters that are handed on by reference -/
def kpOf : Nat → List V → List Sl → List (Nat × Addr)
  | n, .ref a :: vs, .own _ :: ss => (n, a) :: kpOf (n + 1) vs ss
  | n, _ :: vs, _ :: ss => kpOf (n + 1) vs ss
  | _, _, _ => []
def ixOf : Nat → List Sl → List Nat
  | n, .own _ :: ss => n :: ixOf (n + 1) ss
  | n, _ :: ss => ixOf (n + 1) ss
  | _, [] => []
theorem kpOf_ix {K : PySem.W.Frag} {H G : Hp} : ∀ {vs : List V} {ss : List Sl} (n : Nat), RSls K H G vs ss → (kpOf n vs ss).map (·.1) = ixOf n ss
  | _, _, n, .nil => rfl
  | _, _, n, .cons (s := s) h r => by
    cases s with
    | no => exact h.elim
    | dat d =>
      have := kpOf_ix (n + 1) r
      cases h <;> exact this
    | own o =>
      obtain ⟨a, h', rfl, _⟩ := h
      exact congrArg (n :: ·) (kpOf_ix (n + 1) r)
theorem kpOf_mem {K : PySem.W.Frag} {H G : Hp} : ∀ {vs : List V} {ss : List Sl} (n : Nat), RSls K H G vs ss → ∀ p ∈ kpOf n vs ss, ∃ j, p.1 = n + j ∧ vs[j]? = some (.ref p.2) ∧ ∃ o, ss[j]? = some (.own o)
  | _, _, n, .nil, p, h => by cases h
  | _, _, n, .cons (v := v) (vs := vs) (s := s) (ss := ss) h r, p, hp => by
    have go : p ∈ kpOf (n + 1) vs ss → ∃ j, p.1 = n + j ∧ (v :: vs)[j]? = some (.ref p.2) ∧ ∃ o, (s :: ss)[j]? = some (.own o) := fun hp => by
      obtain ⟨j, e1, e2, e3⟩ := kpOf_mem (n + 1) r p hp
      exact ⟨j + 1, by omega, e2, e3⟩
    cases s with
    | no => exact h.elim
    | dat d => cases h <;> exact go hp
    | own o =>
      obtain ⟨a, h', rfl, _⟩ := h
      rcases List.mem_cons.mp hp with rfl | hp
      · exact ⟨0, rfl, rfl, o, rfl⟩
      · exact go hp
theorem kpOf_has {K : PySem.W.Frag} {H G : Hp} : ∀ {vs : List V} {ss : List Sl} (n : Nat), RSls K H G vs ss → ∀ (j : Nat) (o : Own) (a : Addr), ss[j]? = some (.own o) → vs[j]? = some (.ref a) → (n + j, a) ∈ kpOf n vs ss
  | _, _, n, .nil, j, o, a, h, _ => by simp at h
  | _, _, n, .cons (vs := vs) (s := s) (ss := ss) h r, j, o, a, h1, h2 => by
    cases j with
    | zero =>
      cases h1
      obtain ⟨a', h', rfl, _⟩ := h
      cases h2
      exact List.mem_cons_self
    | succ j =>
      have ih := kpOf_has (n + 1) r j o a h1 h2
      have e : n + 1 + j = n + (j + 1) := by omega
      rw [e] at ih
      cases s with
      | no => exact h.elim
      | dat d => cases h <;> exact ih
      | own o =>
        obtain ⟨a', h', rfl, _⟩ := h
        exact List.mem_cons_of_mem _ ih
theorem RSls.len {K : PySem.W.Frag} {H G : Hp} : ∀ {vs : List V} {ss : List Sl}, RSls K H G vs ss → vs.length = ss.length
  | _, _, .nil => rfl
  | _, _, .cons _ r => congrArg (· + 1) r.len
theorem RSls.at {K : PySem.W.Frag} {H G : Hp} : ∀ {vs : List V} {ss : List Sl}, RSls K H G vs ss → ∀ {j : Nat} {s : Sl}, ss[j]? = some s → ∃ v, vs[j]? = some v ∧ RSl K H G v s
  | _, _, .nil, j, s, h => by simp at h
  | _, _, .cons h _, 0, s, e => by cases e; exact ⟨_, rfl, h⟩
  | _, _, .cons _ r, j + 1, s, e => by
    obtain ⟨v, h1, h2⟩ := RSls.at r (j := j) (s := s) (by simpa using e)
    exact ⟨v, by simpa using h1, h2⟩
/-- what a call leaves -/
structure Back (K : PySem.W.Frag) (kp : List (Nat × Addr)) (H G : Hp) (args' : List Sl) (H' G' : Hp) : Prop where
  sub : Ex G' H'
  ex : Ex G G'
  kep : ∀ (a : Addr) (o : HO), H a = some o → (∀ p ∈ kp, p.2 ≠ a) → H' a = some o ∧ (G a = none → G' a = none)
  dm : ∀ (a : Addr), H' a = none → H a = none
  ow : ∀ p ∈ kp, ∃ o h, args'[p.1]? = some (.own o) ∧ H' p.2 = some h ∧ G' p.2 = none ∧ RpO K G' h o
def Res (K : PySem.W.Frag) (H H' G' : Hp) (v : V) : R → Prop
  | .dat d => Rp K G' v d
  | .own o => ∃ a h, v = .ref a ∧ H' a = some h ∧ G' a = none ∧ RpO K G' h o ∧ H a = none
  | .bor _ => False
def RX (K : PySem.W.Frag) (H' G' : Hp) (d : Option Addr) : Option (List (Str × D)) → Prop
  | none => d = none
  | some l => ∃ a fs, d = some a ∧ H' a = some (.xd fs) ∧ RpF K G' fs l
def toSp (K : PySem.W.Frag) (sp : DSp) : Sp := fun vs H Q E => ∃ G args QD ED, Ex G H ∧ RSls K H G vs args ∧ ((kpOf 0 vs args).map (·.2)).Nodup ∧ sp args QD ED ∧
  (∀ v H' G' r args', Back K (kpOf 0 vs args) H G args' H' G' → Res K H H' G' v r → QD r args' → Q v H') ∧
  (∀ d H' G' x args', Back K (kpOf 0 vs args) H G args' H' G' → RX K H' G' d x.l → ED x args' → E (.ref x.C) d H')
/-- the ground of a def's body -/
def basOf (vs : List V) (args : List Sl) (H G : Hp) : Bas := { B := fun a => if a ∈ (kpOf 0 vs args).map (·.2) then none else H a, G0 := G, kp := kpOf 0 vs args }
section
variable {K : PySem.W.Frag} {H G : Hp} {vs : List V} {args : List Sl}
theorem nodup_snd {α β : Type} {l : List (α × β)} (h : (l.map (·.2)).Nodup) {p q : α × β} (hp : p ∈ l) (hq : q ∈ l) (e : p.2 = q.2) : p = q := by
  induction l with
  | nil => cases hp
  | cons x r ih =>
    rw [List.map_cons, List.nodup_cons] at h
    rcases List.mem_cons.mp hp with z1 | z1 <;> rcases List.mem_cons.mp hq with z2 | z2
    · rw [z1, z2]
    · exact absurd (by rw [← z1, e]; exact List.mem_map_of_mem z2) h.1
    · exact absurd (by rw [← z2, ← e]; exact List.mem_map_of_mem z1) h.1
    · exact ih h.2 z1 z2
theorem rel_start {N : List Str} (hs : Ex G H) (h : RSls K H G vs args) (nd : ((kpOf 0 vs args).map (·.2)).Nodup) : Rel K (basOf vs args H G) (L2.start N vs) H G (args ++ List.replicate (N.length - args.length) .no) := by
  have hl := h.len
  have inA : ∀ {i : Nat} {s : Sl}, s ≠ .no → (args ++ List.replicate (N.length - args.length) Sl.no)[i]? = some s → args[i]? = some s := fun {i s} hn e => by
    by_cases hi : i < args.length
    · rw [List.getElem?_append_left hi] at e; exact e
    · rw [List.getElem?_append_right (by omega), List.getElem?_replicate] at e
      split at e
      · cases e; exact absurd rfl hn
      · cases e
  have inV : ∀ {i : Nat} {v : V}, vs[i]? = some v → (L2.start N vs)[i]? = some (some v) := fun {i v} e => by
    have hi : i < vs.length := (List.getElem?_eq_some_iff.mp e).1
    unfold L2.start
    rw [List.getElem?_append_left (by rw [List.length_map]; exact hi), List.getElem?_map, e]
    rfl
  have own1 : ∀ {i : Nat} {o : Own}, args[i]? = some (.own o) → ∃ a hh, vs[i]? = some (.ref a) ∧ H a = some hh ∧ G a = none ∧ RpO K G hh o ∧ (i, a) ∈ kpOf 0 vs args := fun {i o} e => by
    obtain ⟨v, e1, a, hh, rfl, z1, z2, z3⟩ := h.at e
    have := kpOf_has 0 h i o a e e1
    rw [Nat.zero_add] at this
    exact ⟨a, hh, e1, z1, z2, z3, this⟩
  refine ⟨hs, fun a o e => ?_, Ex.refl G, fun a _ e => e, ?_, fun i d e => ?_, fun i o e => ?_, fun i j o o' a e1 e2 e3 e4 => ?_, fun p hp => ?_⟩
  · have e' : (if a ∈ (kpOf 0 vs args).map (·.2) then none else H a) = some o := e
    split at e'
    · cases e'
    · exact e'
  · unfold L2.start
    rw [List.length_append, List.length_append, List.length_map, List.length_replicate, List.length_replicate, hl]
  · obtain ⟨v, e1, e2⟩ := h.at (inA (by intro z; cases z) e)
    exact ⟨v, inV e1, e2⟩
  · obtain ⟨a, hh, e1, z1, z2, z3, z4⟩ := own1 (inA (by intro z; cases z) e)
    refine ⟨a, hh, inV e1, z1, z2, ?_, z3⟩
    show (if a ∈ (kpOf 0 vs args).map (·.2) then none else H a) = none
    rw [if_pos (List.mem_map_of_mem z4)]
  · obtain ⟨a1, _, f1, _, _, _, m1⟩ := own1 (inA (by intro z; cases z) e1)
    obtain ⟨a2, _, f2, _, _, _, m2⟩ := own1 (inA (by intro z; cases z) e2)
    have g1 := inV f1
    have g2 := inV f2
    rw [e3] at g1
    rw [e4] at g2
    cases g1
    cases g2
    have := nodup_snd nd m1 m2 rfl
    cases this
    rfl
  · obtain ⟨j, e1, e2, o, e3⟩ := kpOf_mem 0 h p hp
    rw [Nat.zero_add] at e1
    subst e1
    refine ⟨inV e2, o, ?_⟩
    rw [List.getElem?_append_left (List.getElem?_eq_some_iff.mp e3).1]
    exact e3
/-- at the end of a body -/
theorem rel_back {σ : L2.St} {H' G' : Hp} {ρ : Rho} (h : RSls K H G vs args) (w : Rel K (basOf vs args H G) σ H' G' ρ) : Back K (kpOf 0 vs args) H G (ρ.take args.length) H' G' := by
  have inB : ∀ {a : Addr}, (∀ p ∈ kpOf 0 vs args, p.2 ≠ a) → (basOf vs args H G).B a = H a := fun {a} n => if_neg fun z => by
    obtain ⟨p, hp, e⟩ := List.mem_map.mp z
    exact n p hp e
  have atOw : ∀ p ∈ kpOf 0 vs args, ∃ o hh, (ρ.take args.length)[p.1]? = some (.own o) ∧ H' p.2 = some hh ∧ G' p.2 = none ∧ RpO K G' hh o := fun p hp => by
    obtain ⟨e1, o, e2⟩ := w.kep p hp
    obtain ⟨a, hh, f1, f2, f3, f4, f5⟩ := w.own p.1 o e2
    rw [e1] at f1
    cases f1
    obtain ⟨j, g1, g2, o', g3⟩ := kpOf_mem 0 h p hp
    have hj : p.1 < args.length := by
      have := (List.getElem?_eq_some_iff.mp g3).1
      omega
    exact ⟨o, hh, by rw [List.getElem?_take_of_lt hj]; exact e2, f2, f3, f5⟩
  refine ⟨w.sub, w.gro, fun a o e n => ?_, fun a e => ?_, atOw⟩
  · have hb := inB n
    refine ⟨w.bas a o (by rw [hb]; exact e), fun g => w.prt a (by rw [hb, e]; exact fun z => by cases z) g⟩
  · cases q : H a with
    | none => rfl
    | some o =>
      by_cases n : ∀ p ∈ kpOf 0 vs args, p.2 ≠ a
      · have := w.bas a o (by rw [inB n]; exact q)
        rw [e] at this; cases this
      · exfalso
        refine n fun p hp z => ?_
        obtain ⟨o', hh, _, f, _⟩ := atOw p hp
        rw [z, e] at f; cases f
theorem rel_res {σ : L2.St} {H' G' J : Hp} {ρ : Rho} {v : V} {r : R} (h : RSls K H G vs args) (w : Rel K (basOf vs args H G) σ H' G' ρ) (q : Rv K (basOf vs args H G) σ J H' G' ρ v r) (hr : NoB r) : Res K H H' G' v r := by
  cases r with
  | dat d => exact q
  | bor i => exact absurd rfl (hr i)
  | own o =>
    obtain ⟨a, hh, rfl, z1, z2, z3, z4, z5, z6⟩ := q
    refine ⟨a, hh, rfl, z1, z2, z4, ?_⟩
    have z3' : (if a ∈ (kpOf 0 vs args).map (·.2) then none else H a) = none := z3
    split at z3'
    · rename_i hm
      obtain ⟨p, hp, e⟩ := List.mem_map.mp hm
      subst e
      obtain ⟨e1, o', e2⟩ := w.kep p hp
      exact absurd e1 (z5 p.1 o' e2)
    · exact z3'
end
section
variable {P : Program} {w : World} {K : PySem.W.Frag} {mg : Str → Option Value} {base : Heap}
theorem RSls.n {H G : Hp} {vs : List V} {args : List Sl} (h : RSls K H G vs args) (n : Nat) (e : args.length = n) : vs.length = n := h.len.trans e
/-- nothing that is handed back is a slot's -/
def EndsD.noB (D : EndsD) : Prop := ∀ i ρ, D.rt (.bor i) ρ → False
/-- a def that raises nothing keeps a promise over data -/
theorem fnG_ok {k : Nat} {x qual : Str} {st : Stmt} {f : Addr} {fd : FuncData} {N ps : List Str} {sp : DSp} (F : Fun K x qual st f fd) (S : FnScope N ps (defScope st)) (len : ∀ args QD ED, sp args QD ED → args.length = ps.length)
    (body : ∀ (cdv : Value) (A : Around) (out : List Env) (s0 : Shared) (H : Hp) (b : Bas) (args : List Sl) (QD : R → List Sl → Prop) (ED : Xc → List Sl → Prop) (E : XK), Room k (A.deeper (envOfC qual (defScope st) s0.heap.objs.size f cdv)) → (A.deeper (envOfC qual (defScope st) s0.heap.objs.size f cdv)).guards = some [] →
      b.kp.map (·.1) = ixOf 0 args → sp args QD ED →
      ∃ sd, PSsD (cxOf CX0 P w K mg base N qual (defScope st) f cdv A out s0 H E).nox b (defBody st) sd ∧
        sd { nx := fun ρ => QD (.dat .non) (ρ.take args.length), rt := fun r ρ => match r with | .bor _ => False | r => QD r (ρ.take args.length) } (args ++ List.replicate (N.length - args.length) .no)) : FnG P w K mg base CX0 (k + 1) f fd ps (toSp K sp) := by
  refine fnG_mk F S (fun xs H Q E h => ?_) fun cdv A out s0 H xs Q E room grd h => ?_
  · obtain ⟨G, args, QD, ED, hs, ra, nd, h, _⟩ := h
    exact ra.len.trans (len args QD ED h)
  · obtain ⟨G, args, QD, ED, hs, ra, nd, h, kq, ke⟩ := h
    obtain ⟨sd, d, q⟩ := body cdv A out s0 H (basOf xs args H G) args QD ED E room grd (kpOf_ix 0 ra) h
    refine ⟨_, d.nox, G, _, _, rel_start hs ra nd, q, fun σ' H' G' ρ' w' x z => ?_, fun v σ' H' G' r ρ' J w' x qv z => ?_, fun _ _ _ _ _ _ z => z, fun _ _ _ _ _ _ z => z⟩
    · exact kq .non H' G' (.dat .non) _ (rel_back ra w') .non z
    · cases r with
      | dat d => exact kq v H' G' (.dat d) _ (rel_back ra w') (rel_res ra w' qv (nob_dat d)) z
      | own o => exact kq v H' G' (.own o) _ (rel_back ra w') (rel_res ra w' qv (nob_own o)) z
      | bor i => exact z.elim
end
end DL

set_option Elab.async false
set_option maxRecDepth 100000
set_option maxHeartbeats 4000000
/-! DL5: calls of defs by their promises; objects that are changed; fields; comprehensions. -/
namespace DL
open PySem PySem.Spec PyProof.Rows L2

section
variable {K : PySem.W.Frag} {b : Bas} {σ : L2.St} {H G H' G' : Hp} {ρ : Rho}
/-- behind something that keeps all there is -/
theorem Rel.on (w : Rel K b σ H G ρ) (sub : Ex G' H') (ex : Ex G G') (kep : ∀ (c : Addr) (u : HO), H c = some u → H' c = some u ∧ (G c = none → G' c = none)) : Rel K b σ H' G' ρ where
  sub := sub
  bas := fun a o e => (kep a o (w.bas a o e)).1
  gro := w.gro.trans ex
  prt := fun a h1 h2 => by
    cases q : b.B a with
    | none => exact absurd q h1
    | some o => exact (kep a o (w.bas a o q)).2 (w.prt a h1 h2)
  len := w.len
  dat := fun i d e => by
    obtain ⟨v, z1, z2⟩ := w.dat i d e
    exact ⟨v, z1, z2.up ex⟩
  own := fun i o e => by
    obtain ⟨a, h, z1, z2, z3, z4, z5⟩ := w.own i o e
    exact ⟨a, h, z1, (kep a h z2).1, (kep a h z2).2 z3, z4, z5.up ex⟩
  dis := w.dis
  kep := w.kep
theorem Fm.on (ex : Ex G G') (kep : ∀ (c : Addr) (u : HO), H c = some u → H' c = some u ∧ (G c = none → G' c = none)) (dm : ∀ a, H' a = none → H a = none) : Fm σ ρ H G ρ H' G' :=
  ⟨ex, fun a o h _ => kep a o h, fun _ o h => ⟨o, h⟩, dm⟩
/-- behind something that changes the object of one slot -/
theorem Rel.chg {i : Nat} {o o' : Own} {a : Addr} {h' : HO} (w : Rel K b σ H G ρ) (hr : ρ[i]? = some (.own o)) (ha : σ[i]? = some (some (.ref a))) (sub : Ex G' H') (ex : Ex G G') (kep : ∀ (c : Addr) (u : HO), H c = some u → c ≠ a → H' c = some u ∧ (G c = none → G' c = none))
    (hat : H' a = some h') (hg : G' a = none) (r : RpO K G' h' o') : Rel K b σ H' G' (ρ.set i (.own o')) := by
  obtain ⟨a', h0, q1, q2, q3, q4, q5⟩ := w.own i o hr
  rw [ha] at q1
  cases q1
  have il : i < ρ.length := (List.getElem?_eq_some_iff.mp hr).1
  have nb : ∀ c, b.B c ≠ none → c ≠ a := fun c h z => h (by rw [z]; exact q4)
  have old : ∀ (j : Nat) (o1 : Own), (ρ.set i (.own o'))[j]? = some (.own o1) → ∃ o2, ρ[j]? = some (.own o2) := fun j o1 z => by
    rcases set_at z with ⟨rfl, _, _⟩ | ⟨_, z⟩
    · exact ⟨o, hr⟩
    · exact ⟨o1, z⟩
  refine ⟨sub, fun c u e => ?_, w.gro.trans ex, fun c h1 h2 => ?_, by rw [List.length_set]; exact w.len, fun j d e => ?_, fun j o1 e => ?_, fun j k o1 o2 c e1 e2 e3 e4 => ?_, fun p hp => ?_⟩
  · exact (kep c u (w.bas c u e) (nb c (by rw [e]; exact fun z => by cases z))).1
  · cases q : b.B c with
    | none => exact absurd q h1
    | some u => exact (kep c u (w.bas c u q) (nb c h1)).2 (w.prt c h1 h2)
  · rcases set_at e with ⟨rfl, e, hl⟩ | ⟨hn, e⟩
    · cases e
    · obtain ⟨v, z1, z2⟩ := w.dat j d e
      exact ⟨v, z1, z2.up ex⟩
  · rcases set_at e with ⟨rfl, e, hl⟩ | ⟨hn, e⟩
    · cases e
      exact ⟨a, h', ha, hat, hg, q4, r⟩
    · obtain ⟨c, h, z1, z2, z3, z4, z5⟩ := w.own j o1 e
      have hc : c ≠ a := fun z => by subst z; exact hn (w.dis j i o1 o c e hr z1 ha)
      exact ⟨c, h, z1, (kep c h z2 hc).1, (kep c h z2 hc).2 z3, z4, z5.up ex⟩
  · obtain ⟨o3, e1⟩ := old j o1 e1
    obtain ⟨o4, e2⟩ := old k o2 e2
    exact w.dis j k o3 o4 c e1 e2 e3 e4
  · obtain ⟨z1, o1, z2⟩ := w.kep p hp
    by_cases hi : p.1 = i
    · exact ⟨z1, o', by rw [hi]; exact set_eq il⟩
    · exact ⟨z1, o1, by rw [set_ne hi]; exact z2⟩
theorem Fm.chg {i : Nat} {o o' : Own} {a : Addr} (hr : ρ[i]? = some (.own o)) (ha : σ[i]? = some (some (.ref a))) (ex : Ex G G') (kep : ∀ (c : Addr) (u : HO), H c = some u → c ≠ a → H' c = some u ∧ (G c = none → G' c = none))
    (dm : ∀ a, H' a = none → H a = none) : Fm σ ρ H G (ρ.set i (.own o')) H' G' :=
  ⟨ex, fun c u h n => kep c u h fun z => n i o hr (by rw [z]; exact ha), fun j o1 z => by
    rcases set_at z with ⟨rfl, _, _⟩ | ⟨_, z⟩
    · exact ⟨o, hr⟩
    · exact ⟨o1, z⟩, dm⟩
theorem Rv.res {v : V} {r : R} {J : Hp} {ρ' : Rho} (w : Rel K b σ H G ρ) (ow : ∀ (i : Nat) (o : Own), ρ'[i]? = some (.own o) → ∃ o', ρ[i]? = some (.own o')) (dm : ∀ a, H a = none → J a = none) (q : Res K H H' G' v r) : Rv K b σ J H' G' ρ' v r := by
  cases r with
  | dat d => exact q
  | bor i => exact q.elim
  | own o =>
    obtain ⟨a, h, rfl, z1, z2, z3, z4⟩ := q
    refine ⟨a, h, rfl, z1, z2, w.bas.gone z4, z3, fun i o' e => ?_, dm a z4⟩
    obtain ⟨o2, e⟩ := ow i o' e
    exact w.apart z4 i o2 e
theorem RpA.sls {vs : List V} {ds : List D} {H : Hp} (r : RpA K G vs ds) : RSls K H G vs (ds.map .dat) := by
  induction ds generalizing vs with
  | nil => cases r; exact .nil
  | cons d ds ih => cases r with | cons h r => exact .cons h (ih r)
theorem kpOf_dat : ∀ (vs : List V) (ds : List D) (n : Nat), kpOf n vs (ds.map .dat) = []
  | [], [], _ => rfl
  | [], _ :: _, _ => rfl
  | v :: vs, [], _ => by cases v <;> rfl
  | v :: vs, d :: ds, n => by
    have := kpOf_dat vs ds (n + 1)
    cases v <;> exact this
end

/-! ### calls -/
/-- f(..), every argument as data -/
def wCall (ks : List Nat) (sp : DSp) (t : TAD) : TD := fun ρ Q => t ρ fun rs ρ1 => lk (frzs ks rs ρ1) fun p => sp (p.1.map .dat) (fun r _ => Q r p.2) fun _ _ => False
/-- f(x, ..), the object of the name x by reference -/
def wCallR (ks : List Nat) (sp : DSp) (t : TAD) : TD := fun ρ Q => t ρ fun rs ρ1 => match rs with
  | .bor i :: rest => lk (frzs ks rest ρ1) fun p => match p.2[i]? with
    | some (.own o) => sp (.own o :: p.1.map .dat) (fun r args' => match args' with
      | .own o' :: _ => Q r (p.2.set i (.own o'))
      | _ => False) fun _ _ => False
    | _ => False
  | _ => False
section
variable {K : PySem.W.Frag} {b : Bas} {ks : List Nat} {sp : DSp} {t : TAD} {E : XK} {σ : L2.St} {H : Hp} {Q : VK}
theorem call_go (hk : b.kp.map (·.1) = ks) (q : lift K b (wCall ks sp t) σ H Q) : tCallG (toSp K sp) E (liftA K b t) σ H Q := by
  obtain ⟨G, ρ, QD, w, q, k⟩ := q
  refine ⟨G, ρ, _, w, q, fun vs H1 G1 rs ρ1 w1 m1 q1 z => ?_⟩
  obtain ⟨p, e1, z⟩ := lk_get z
  obtain ⟨ds, ρ2⟩ := p
  obtain ⟨G2, w2, m2, r2, x2⟩ := Rel.frzs hk w1 m1 q1 e1
  refine ⟨G2, ds.map .dat, _, _, w2.sub, r2.sls, by rw [kpOf_dat]; exact List.nodup_nil, z, fun v H' G' r args' bk rs z' => ?_, fun _ _ _ _ _ _ _ z' => z'.elim⟩
  rw [kpOf_dat] at bk
  have kep : ∀ (c : Addr) (u : HO), H1 c = some u → H' c = some u ∧ (G2 c = none → G' c = none) := fun c u h => bk.kep c u h fun _ hp => by cases hp
  have m3 : Fm σ ρ2 H1 G2 ρ2 H' G' := Fm.on bk.ex kep bk.dm
  exact k v H' G' r ρ2 (w2.on bk.sub bk.ex kep) (m2.trans m3) (Rv.res w2 (fun _ o h => ⟨o, h⟩) m2.dm rs) z'
theorem callR_go (hk : b.kp.map (·.1) = ks) (q : lift K b (wCallR ks sp t) σ H Q) : tCallG (toSp K sp) E (liftA K b t) σ H Q := by
  obtain ⟨G, ρ, QD, w, q, k⟩ := q
  refine ⟨G, ρ, _, w, q, fun vs H1 G1 rs ρ1 w1 m1 q1 z => ?_⟩
  cases q1 with
  | nil => exact z.elim
  | cons p1 p2 p3 =>
    rename_i v vs r rs
    cases r with
    | dat d => exact z.elim
    | own o => exact z.elim
    | bor i =>
      have p1' : σ[i]? = some (some v) := p1
      obtain ⟨p, e1, z⟩ := lk_get z
      obtain ⟨ds, ρ2⟩ := p
      obtain ⟨G2, w2, m2, r2, x2⟩ := Rel.frzs hk w1 m1 p3 e1
      dsimp only at z
      split at z
      · rename_i o ho
        obtain ⟨a, h, z1, z2, z3, z4, z5⟩ := w2.own i o ho
        rw [z1] at p1'
        cases p1'
        have ekp : kpOf 0 (V.ref a :: vs) (.own o :: ds.map .dat) = [(0, a)] := by
          show (0, a) :: kpOf 1 vs (ds.map .dat) = [(0, a)]
          rw [kpOf_dat]
        refine ⟨G2, .own o :: ds.map .dat, _, _, w2.sub, .cons ⟨a, h, rfl, z2, z3, z5⟩ r2.sls, by rw [ekp]; exact List.nodup_cons.mpr ⟨by simp, List.nodup_nil⟩, z, fun v H' G' r args' bk rs z' => ?_, fun _ _ _ _ _ _ _ z' => z'.elim⟩
        rw [ekp] at bk
        obtain ⟨o', h', y1, y2, y3, y4⟩ := bk.ow (0, a) List.mem_cons_self
        have kep : ∀ (c : Addr) (u : HO), H1 c = some u → c ≠ a → H' c = some u ∧ (G2 c = none → G' c = none) := fun c u h n => bk.kep c u h fun p hp e => by
          rcases List.mem_cons.mp hp with rfl | hp
          · exact n e.symm
          · cases hp
        split at z'
        · rename_i o2 rest
          have e2 : o2 = o' := by
            have y1' : some (Sl.own o2) = some (Sl.own o') := y1
            cases y1'
            rfl
          subst e2
          have m3 : Fm σ ρ2 H1 G2 (ρ2.set i (.own o2)) H' G' := Fm.chg ho z1 bk.ex kep bk.dm
          exact k v H' G' r _ (w2.chg ho z1 bk.sub bk.ex kep y2 y3 y4) (m2.trans m3) (Rv.res w2 m3.ow m2.dm rs) z'
        · exact z'.elim
      · exact z.elim
end
section
variable {X : Cx} {b : Bas} {CX : CXT} {k : Nat} {f : Addr} {fd : FuncData} {ps : List Str} {sp : DSp} {x : Str} {p pos : Pos} {e : Expr} {es : List Expr} {t : TAD} {ks : List Nat}
/-- what a caller knows of a def that raises nothing -/
structure Known (X : Cx) (k : Nat) (x : Str) (sp : DSp) : Prop where
  ex : ∃ (f : Addr) (fd : FuncData) (ps : List Str), FnG X.prog X.w X.K X.mg X.base CX0 k f fd ps (toSp X.K sp) ∧ X.mg x = some (.ref f) ∧ PySem.W.keepIn X.K (.ref f) = true ∧ Binds X.K fd ps []
theorem d_call (hk : b.kp.map (·.1) = ks) (F : Known X k x sp) (room : Room k X.A) (grd : X.A.guards = some []) (hg : Gl X x) (args : PAD X b (e :: es) t)
    (hd : (x == ("__debug__" : Str)) = false := by decide) (hs : starEach (e :: es) X.env = (false, eval e X.env) :: starEach es X.env := by rfl) (hp : (backTo pos (starEach es X.env)).any (·.1) = false := by rfl) :
    PD X b (.Call (.Name x p) (e :: es) [] pos) (wCall ks sp t) := by
  obtain ⟨f, fd, ps, F, hm, kept, bind⟩ := F.ex
  exact pe_weak (pe_callG F room grd hg hm kept bind pass0 args hd hs hp) fun _ _ _ q => call_go hk q
theorem d_callR (hk : b.kp.map (·.1) = ks) (F : Known X k x sp) (room : Room k X.A) (grd : X.A.guards = some []) (hg : Gl X x) (args : PAD X b (e :: es) t)
    (hd : (x == ("__debug__" : Str)) = false := by decide) (hs : starEach (e :: es) X.env = (false, eval e X.env) :: starEach es X.env := by rfl) (hp : (backTo pos (starEach es X.env)).any (·.1) = false := by rfl) :
    PD X b (.Call (.Name x p) (e :: es) [] pos) (wCallR ks sp t) := by
  obtain ⟨f, fd, ps, F, hm, kept, bind⟩ := F.ex
  exact pe_weak (pe_callG F room grd hg hm kept bind pass0 args hd hs hp) fun _ _ _ q => callR_go hk q
end

/-! ### built-in functions and types by values -/
def FnB (K : PySem.W.Frag) (r : List V → Hp → VK → Prop) (g : List D → Option Z) : Prop := ∀ (H G : Hp) (xs : List V) (ds : List D) (z : Z) (Q : VK), Ex G H → Paired (Rc K H G) xs ds → g ds = some z → (∀ v H', Out K H G v H' z → Q v H') → r xs H Q
def conL (ρ : Rho) : List R → Option (List D)
  | [] => some []
  | r :: rs => (con ρ r).bind fun d => (conL ρ rs).map fun ds => d :: ds
def wB (g : List D → Option Z) (t : TAD) : TD := fun ρ Q => t ρ fun rs ρ1 => lk (conL ρ1 rs) fun ds => lk (g ds) fun z => Q z.r ρ1
theorem RvA.rc {K : PySem.W.Frag} {b : Bas} {σ : L2.St} {J H G : Hp} {ρ : Rho} (w : Rel K b σ H G ρ) : ∀ {vs : List V} {rs : List R} {ds : List D}, RvA K b σ J H G ρ vs rs → conL ρ rs = some ds → Paired (Rc K H G) vs ds
  | _, _, ds, .nil, e => by cases e; exact .nil
  | _, _, ds, .cons (r := r) (rs := rs) h1 h2 h3, e => by
    unfold conL at e
    cases e1 : con ρ r with
    | none => rw [e1] at e; cases e
    | some d =>
      rw [e1] at e
      have e' : Option.map (fun ds => d :: ds) (conL ρ rs) = some ds := e
      cases e2 : conL ρ rs with
      | none => rw [e2] at e'; cases e'
      | some ds2 =>
        rw [e2] at e'
        cases e'
        exact .cons (h1.rc w e1) (RvA.rc w h3 e2)
theorem wB_go {K : PySem.W.Frag} {b : Bas} {r : List V → Hp → VK → Prop} {g : List D → Option Z} (hr : FnB K r g) {t : TAD} {σ : L2.St} {H : Hp} {Q : VK} (q : lift K b (wB g t) σ H Q) : tCB r (liftA K b t) σ H Q := by
  obtain ⟨G, ρ, QD, w, q, k⟩ := q
  refine ⟨G, ρ, _, w, q, fun vs H1 G1 rs ρ1 w1 m1 q1 z => ?_⟩
  obtain ⟨ds, e1, z⟩ := lk_get z
  obtain ⟨y, e2, z⟩ := lk_get z
  refine hr H1 G1 vs ds y Q w1.sub (q1.rc w1 e1) e2 fun v H' o => ?_
  obtain ⟨G', w', m', q'⟩ := o.go w1
  exact k v H' G' _ ρ1 w' (m1.trans m') (q'.back m1.dm) z
section
variable {X : Cx} {b : Bas} {x : Str} {p pos : Pos} {e : Expr} {es : List Expr} {t : TAD} {id T : String} {r : List V → Hp → VK → Prop} {g : List D → Option Z}
theorem d_b (hc : CallR X (.builtin id) r) (hr : FnB X.K r g) (hg : Gl X x) (hm : X.mg x = none) (hv : bootBuiltins x = some (.builtin id)) (ha : PAD X b (e :: es) t) (hn : x ≠ "__name__" := by decide) (hdb : (x == ("__debug__" : Str)) = false := by decide)
    (hs : starEach (e :: es) X.env = (false, eval e X.env) :: starEach es X.env := by rfl) (hp : (backTo pos (starEach es X.env)).any (·.1) = false := by rfl) : PD X b (.Call (.Name x p) (e :: es) [] pos) (wB g t) :=
  pe_weak (pe_callB hc hg hm hv ha hn hdb hs hp) fun _ _ _ q => wB_go hr q
theorem d_ty (hc : CallR X (.type T) r) (hr : FnB X.K r g) (hg : Gl X x) (hm : X.mg x = none) (hv : bootBuiltins x = some (.type T)) (ha : PAD X b (e :: es) t) (hn : x ≠ "__name__" := by decide) (hdb : (x == ("__debug__" : Str)) = false := by decide)
    (hs : starEach (e :: es) X.env = (false, eval e X.env) :: starEach es X.env := by rfl) (hp : (backTo pos (starEach es X.env)).any (·.1) = false := by rfl) : PD X b (.Call (.Name x p) (e :: es) [] pos) (wB g t) :=
  pe_weak (pe_callTy hc hg hm hv ha hn hdb hs hp) fun _ _ _ q => wB_go hr q
end
end DL

set_option Elab.async false
set_option maxRecDepth 100000
set_option maxHeartbeats 4000000
/-! DL6: methods that change a slot's list, stores, fields, what is walked, list comprehensions. -/
namespace DL
open PySem PySem.Spec PyProof.Rows L2

/-! ### a method of a slot's list -/
def wMut (ks : List Nat) (i : Nat) (g : List D → List D → Option (List D × D)) (t : TAD) : TD := fun ρ Q => match ρ[i]? with
  | some (.own (.lst _)) => t ρ fun rs ρ1 => lk (frzs ks rs ρ1) fun p => match p.2[i]? with
    | some (.own (.lst l)) => lk (g l p.1) fun q => Q (.dat q.2) (p.2.set i (.own (.lst q.1)))
    | _ => False
  | _ => False
def MutL (K : PySem.W.Frag) (r : V → List V → Hp → VK → Prop) (g : List D → List D → Option (List D × D)) : Prop := ∀ (H G : Hp) (a : Addr) (xs ys : List V) (ls ds l' : List D) (z : D) (Q : VK), Ex G H → H a = some (.lst xs) → G a = none → RpA K G xs ls → RpA K G ys ds → g ls ds = some (l', z) →
  (∀ v xs', RpA K G xs' l' → Rp K G v z → Q v (upd H a (.lst xs'))) → r (.ref a) ys H Q
theorem mut_kep {H G : Hp} {a : Addr} {h h' : HO} (ha : H a = some h) : (∀ (c : Addr) (u : HO), H c = some u → c ≠ a → upd H a h' c = some u ∧ (G c = none → G c = none)) ∧ ∀ c, upd H a h' c = none → H c = none :=
  ⟨fun c u e n => ⟨by rw [upd_ne n]; exact e, fun z => z⟩, fun c e => by
    by_cases n : c = a
    · subst n; rw [upd_same] at e; cases e
    · rw [upd_ne n] at e; exact e⟩
theorem mut_go {K : PySem.W.Frag} {b : Bas} {ks : List Nat} {i : Nat} {g : List D → List D → Option (List D × D)} {r : V → List V → Hp → VK → Prop} (hr : MutL K r g) (hk : b.kp.map (·.1) = ks) {t : TAD} {σ : L2.St} {H : Hp} {Q : VK} (q : lift K b (wMut ks i g t) σ H Q) :
    tBM K "list" r (tVar i) (liftA K b t) σ H Q := by
  obtain ⟨G, ρ, QD, w, q, k⟩ := q
  unfold wMut at q
  split at q
  · rename_i l0 hr0
    obtain ⟨a, h, z1, z2, z3, z4, z5⟩ := w.own i _ hr0
    have : ∃ xs, h = .lst xs := by cases z5; exact ⟨_, rfl⟩
    obtain ⟨xs0, rfl⟩ := this
    refine ⟨.ref a, z1, .inl ⟨rfl, xs0, SqL.of z2⟩, G, ρ, _, w, q, fun vs H1 G1 rs ρ1 w1 m1 q1 z => ?_⟩
    obtain ⟨p, e1, z⟩ := lk_get z
    obtain ⟨ds, ρ2⟩ := p
    obtain ⟨G2, w2, m2, r2, x2⟩ := Rel.frzs hk w1 m1 q1 e1
    dsimp only at z
    split at z
    · rename_i l hl
      obtain ⟨q', e2, z⟩ := lk_get z
      obtain ⟨l', d⟩ := q'
      obtain ⟨a', h, y1, y2, y3, y4, y5⟩ := w2.own i _ hl
      rw [z1] at y1
      cases y1
      cases y5 with
      | lst y5 =>
        refine hr H1 G2 a _ vs l ds l' d Q w2.sub y2 y3 y5 r2 e2 fun v xs' ra rd => ?_
        obtain ⟨kp, dm⟩ := mut_kep (G := G2) (h' := .lst xs') y2
        have m3 : Fm σ ρ2 H1 G2 (ρ2.set i (.own (.lst l'))) (upd H1 a (.lst xs')) G2 := Fm.chg hl z1 (Ex.refl G2) kp dm
        exact k v _ G2 (.dat d) _ (w2.chg hl z1 (w2.sub.over y3) (Ex.refl G2) kp upd_same y3 (.lst ra)) (m2.trans m3) rd z
    · exact z.elim
  · exact q.elim
section
variable {X : Cx} {b : Bas} {ks : List Nat} {i : Nat} {o e : Expr} {es : List Expr} {t : TAD} {name : Str} {apos cpos : Pos} {id : String} {r : V → List V → Hp → VK → Prop} {g : List D → List D → Option (List D × D)}
theorem d_mut (hk : b.kp.map (·.1) = ks) (hg : MutL X.K r g) (hm : MtR X id r) (pa : PlainAttrs "list") (slot : Slot "list" name id) (hty : typeOf (.builtin id) = pure (.type "method_descriptor")) (ho : PE X o (tVar i)) (ha : PAD X b (e :: es) t)
    (hbase : attributeBase o name X.env (eval o X.env) = eval o X.env := by rfl)
    (hf : ((backTo cpos (starEach (e :: es) X.env)).all (fun x => !x.1) && (backToKw cpos (keywordEach [] X.env)).all (fun x => x.1.isSome) && decide ((e :: es).length + ([] : List Keyword).length + (if ([] : List Keyword).isEmpty then 0 else 1) < 30)) = true := by rfl)
    (hline : (apos.endLine == cpos.line) = true := by rfl) (he : starEach (e :: es) X.env = (false, eval e X.env) :: starEach es X.env := by rfl) (hpl : (backTo cpos (starEach es X.env)).any (·.1) = false := by rfl) :
    PD X b (.Call (.Attribute o name apos) (e :: es) [] cpos) (wMut ks i g t) := pe_weak (pe_bm pa slot hty hm ho ha hbase hf hline he hpl) fun _ _ _ q => mut_go hg hk q
theorem d_mut0 (hk : b.kp.map (·.1) = ks) (hg : MutL X.K r g) (hm : MtR X id r) (pa : PlainAttrs "list") (slot : Slot "list" name id) (hty : typeOf (.builtin id) = pure (.type "method_descriptor")) (ho : PE X o (tVar i))
    (hbase : attributeBase o name X.env (eval o X.env) = eval o X.env := by rfl) (hline : (apos.endLine == cpos.line) = true := by rfl) :
    PD X b (.Call (.Attribute o name apos) [] [] cpos) (wMut ks i g wNil) := pe_weak (pe_bm0 pa slot hty hm ho hbase hline) fun σ H Q q => by
  have q' := mut_go hg hk q
  obtain ⟨v, h1, h2, h3⟩ := q'
  obtain ⟨G, ρ, QD, w, q2, k⟩ := h3
  exact ⟨v, h1, h2, k [] H G [] ρ w (Fm.refl σ ρ H G) .nil q2⟩
end

/-! ### x[k] = e at a slot's list; n op= e -/
def wPut (ks : List Nat) (i : Nat) (ti ta : TD) : SD := fun DD ρ => ta ρ fun r ρ1 => lk (frz ks r ρ1) fun p => (∃ l0, p.2[i]? = some (.own (.lst l0))) ∧ ti p.2 fun rk ρ2 => lk (con ρ2 rk) fun dk => match dk, ρ2[i]? with
  | .int k, some (.own (.lst l)) => lk (ixN l.length k) fun j => DD.nx (ρ2.set i (.own (.lst (l.set j p.1))))
  | _, _ => False
theorem RpA.set {K : PySem.W.Frag} {G : Hp} {v : V} {d : D} (r : Rp K G v d) : ∀ {xs : List V} {ds : List D} (j : Nat), RpA K G xs ds → RpA K G (xs.set j v) (ds.set j d)
  | _, _, _, .nil => .nil
  | _, _, 0, .cons _ t => .cons r t
  | _, _, j + 1, .cons q t => .cons q (RpA.set r j t)
theorem Rc.int {K : PySem.W.Frag} {H G : Hp} {v : V} {k : Int} (r : Rc K H G v (.int k)) : v = .int k := by
  rcases r with r | ⟨a, h, o, rfl, h1, r, z⟩
  · cases r; rfl
  · cases o <;> cases z
theorem Rc.str {K : PySem.W.Frag} {H G : Hp} {v : V} {k : Str} (r : Rc K H G v (.str k)) : v = .str k := by
  rcases r with r | ⟨a, h, o, rfl, h1, r, z⟩
  · cases r; rfl
  · cases o <;> cases z
theorem Rc.bl {K : PySem.W.Frag} {H G : Hp} {v : V} {k : Bool} (r : Rc K H G v (.bl k)) : v = .bl k := by
  rcases r with r | ⟨a, h, o, rfl, h1, r, z⟩
  · cases r; rfl
  · cases o <;> cases z
theorem Rc.non {K : PySem.W.Frag} {H G : Hp} {v : V} (r : Rc K H G v .non) : v = .non := by
  rcases r with r | ⟨a, h, o, rfl, h1, r, z⟩
  · cases r; rfl
  · cases o <;> cases z
theorem Rc.lst {K : PySem.W.Frag} {H G : Hp} {v : V} {ds : List D} (e : Ex G H) (r : Rc K H G v (.lst ds)) : ∃ a xs, v = .ref a ∧ H a = some (.lst xs) ∧ RpA K G xs ds := by
  rcases r with r | ⟨a, h, o, rfl, h1, r, z⟩
  · cases r with | lst h1 h2 => exact ⟨_, _, rfl, e _ _ h1, h2⟩
  · cases r with
    | lst r => cases z; exact ⟨a, _, rfl, h1, r⟩
    | dct r => cases z
    | ins r => cases z
theorem Rc.fzl {K : PySem.W.Frag} {H G : Hp} {v : V} {ds : List D} (e : Ex G H) (r : Rc K H G v (.fzl ds)) : ∃ a xs, v = .ref a ∧ SqL K H a xs ∧ RpA K G xs ds := by
  rcases r with r | ⟨a, h, o, rfl, h1, r, z⟩
  · cases r with | fzl h1 h2 => exact ⟨_, _, rfl, e.sql h1, h2⟩
  · cases o <;> cases z
theorem Rc.tup {K : PySem.W.Frag} {H G : Hp} {v : V} {ds : List D} (e : Ex G H) (r : Rc K H G v (.tup ds)) : ∃ a xs, v = .ref a ∧ SqP K H a xs ∧ RpA K G xs ds ∧ Rp K G v (.tup ds) := by
  rcases r with r | ⟨a, h, o, rfl, h1, r, z⟩
  · have r0 := r
    cases r with | tup h1 h2 => exact ⟨_, _, rfl, e.sqp h1, h2, r0⟩
  · cases o <;> cases z
section
variable {X : Cx} {b : Bas} {ks : List Nat} {i : Nat} {o ek e : Expr} {ti ta : TD} {spos pos : Pos}
theorem s_put (hk : b.kp.map (·.1) = ks) (ho : PE X o (tVar i)) (hi : PD X b ek ti) (he : PD X b e ta) (ha : ∀ v, assign (.Subscript o ek spos) X.env v = (do let ov ← holding [v] (eval o X.env); let iv ← holding [v, ov] (eval ek X.env); standAt spos; holding [v, ov, iv] (setItem ov iv v); release [v, ov, iv] []) := by intro _; rfl)
    (hs : swapsWithSole [.Subscript o ek spos] e pos.line X.env = pure false := by rfl) (hw : swappedStores [.Subscript o ek spos] e X.env = pure none := by rfl) (h1 : (assignEach [.Subscript o ek spos] X.env).map (·.2) = [assign (.Subscript o ek spos) X.env] := by rfl) :
    PSD X b (.Assign [.Subscript o ek spos] e pos) (wPut ks i ti ta) := ps_weak (ps_asg he (pg_sub ho hi set_list ha) hs hw h1) fun D σ H q => by
  obtain ⟨G, ρ, DD, w, q, n, _⟩ := q
  refine ⟨G, ρ, _, w, q, fun v H1 G1 r ρ1 w1 m1 q1 z => ?_⟩
  obtain ⟨p, e1, z⟩ := lk_get z
  obtain ⟨d, ρ2⟩ := p
  obtain ⟨G2, w2, m2, x2, r2, _⟩ := w1.frz hk m1 q1 e1
  obtain ⟨⟨l0, hl0⟩, z⟩ := z
  obtain ⟨a, h0, hx, _⟩ := w2.own i _ hl0
  refine ⟨.ref a, hx, G2, ρ2, _, w2, z, fun u H3 G3 r3 ρ3 w3 m3 q3 z => ?_⟩
  obtain ⟨dk, e3, z⟩ := lk_get z
  split at z
  · rename_i k l hl
    obtain ⟨j, e4, z⟩ := lk_get z
    obtain ⟨a', h, y1, y2, y3, y4, y5⟩ := w3.own i _ hl
    rw [hx] at y1
    cases y1
    cases y5 with
    | lst y5 =>
      rename_i xs
      obtain rfl := (q3.rc w3 e3).int
      obtain ⟨kp, dm⟩ := mut_kep (G := G3) (h' := .lst (xs.set j v)) y2
      exact ⟨a, xs, k, j, rfl, rfl, y2, by rw [y5.len]; exact e4, n σ _ G3 _ (w3.chg hl hx (w3.sub.over y3) (Ex.refl G3) kp upd_same y3 (.lst (RpA.set (r2.up m3.ex) j y5))) (m2.ex.trans m3.ex) z⟩
  · exact z.elim
/-- n op= e, n a number's or text's name -/
def wAug (ks : List Nat) (i : Nat) (g : D → D → Option Z) (ta : TD) : SD := fun DD ρ => match ρ[i]? with
  | some (.dat d0) => ta ρ fun r ρ1 => lk (con ρ1 r) fun d => lk (g d0 d) fun z => if i ∈ ks then False else DD.nx (ρ1.set i z.r.sl)
  | _ => False
theorem s_aug {x : Str} {op : Operator} {r : R2} {g : D → D → Option Z} {pos' : Pos} (hk : b.kp.map (·.1) = ks) (hg : Op2 X.K r g) (hN : X.N.Nodup) (hi : X.N[i]? = some x) (hx : Loc X.env.scope x) (he : PD X b e ta) (ho : PIp X op r) (hf : X.fn x = true ∨ X.env.scope.names.lookup x = some .local := by first | exact .inl rfl | exact .inr rfl | assumption) :
    PSD X b (.AugAssign (.Name x pos') op e pos) (wAug ks i g ta) := ps_weak (ps_aug hN hi hx he ho hf) fun D σ H q => by
  obtain ⟨G, ρ, DD, w, q, n, _⟩ := q
  unfold wAug at q
  split at q
  · rename_i d0 h0
    obtain ⟨v0, y1, y2⟩ := w.dat i d0 h0
    refine ⟨v0, y1, G, ρ, _, w, q, fun v H1 G1 r ρ1 w1 m1 q1 z => ?_⟩
    obtain ⟨d, e1, z⟩ := lk_get z
    obtain ⟨zz, e2, z⟩ := lk_get z
    split at z
    · exact z.elim
    · rename_i hi
      refine hg H1 G1 v0 v d0 d zz _ w1.sub (.inl (y2.up m1.ex)) (q1.rc w1 e1) e2 fun v' H' o => ?_
      obtain ⟨G', w', m', q'⟩ := o.go w1
      exact n _ H' G' _ (w'.set q' (by cases zz <;> intro i z <;> cases z) fun p hp e => hi (by rw [← hk, ← e]; exact List.mem_map_of_mem hp)) (m1.ex.trans m'.ex) z
  · exact q.elim
end

/-! ### fields -/
def insD (C : Addr) : D → Option (List (Str × D))
  | .ins C' l => if C' = C then some l else none
  | _ => none
def wFld (C : Addr) (f : Str) (ta : TD) : TD := fun ρ Q => ta ρ fun r ρ1 => lk ((con ρ1 r).bind (insD C)) fun l => lk (l.lookup f) fun d => Q (.dat d) ρ1
theorem RpF.look {K : PySem.W.Frag} {G : Hp} {f : Str} : ∀ {fs : List (Str × V)} {ds : List (Str × D)}, RpF K G fs ds → ∀ {d : D}, ds.lookup f = some d → ∃ v, fs.lookup f = some v ∧ Rp K G v d
  | _, _, .nil, d, h => by cases h
  | _, _, .cons (k := k) h r, d, e => by
    unfold List.lookup at e ⊢
    split at e
    · cases e
      exact ⟨_, rfl, h⟩
    · exact r.look e
theorem RpF.len {K : PySem.W.Frag} {G : Hp} : ∀ {fs : List (Str × V)} {ds : List (Str × D)}, RpF K G fs ds → fs.length = ds.length
  | _, _, .nil => rfl
  | _, _, .cons _ r => congrArg (· + 1) r.len
def putD (f : Str) (d : D) : List (Str × D) → List (Str × D)
  | [] => [(f, d)]
  | (g, x) :: r => if g = f then (g, d) :: r else (g, x) :: putD f d r
theorem RpF.put {K : PySem.W.Frag} {G : Hp} {f : Str} {v : V} {d : D} (q : Rp K G v d) : ∀ {fs : List (Str × V)} {ds : List (Str × D)}, RpF K G fs ds → RpF K G (putF f v fs) (putD f d ds)
  | _, _, .nil => .cons q .nil
  | _, _, .cons (k := k) h r => by
    unfold putF putD
    by_cases e : k = f
    · rw [if_pos e, if_pos e]; exact .cons q r
    · rw [if_neg e, if_neg e]; exact .cons h (r.put q)
theorem Rc.ins {K : PySem.W.Frag} {H G : Hp} {v : V} {C : Addr} {l : List (Str × D)} (e : Ex G H) (r : Rc K H G v (.ins C l)) : ∃ a dx fs, v = .ref a ∧ H a = some (.ins C dx fs) ∧ RpF K G fs l := by
  rcases r with r | ⟨a, h, o, rfl, h1, r, z⟩
  · cases r with | ins h1 h2 => exact ⟨_, _, _, rfl, e _ _ h1, h2⟩
  · cases r with
    | lst r => cases z
    | dct r => cases z
    | ins r => cases z; exact ⟨a, _, _, rfl, h1, r⟩
def wSetF (ks : List Nat) (i : Nat) (C : Addr) (f : Str) (ta : TD) : SD := fun DD ρ => ta ρ fun r ρ1 => lk (frz ks r ρ1) fun p => match p.2[i]? with
  | some (.own (.ins C' l)) => C' = C ∧ l.length < 1000 ∧ DD.nx (p.2.set i (.own (.ins C (putD f p.1 l))))
  | _ => False
section
variable {X : Cx} {b : Bas} {ks : List Nat} {i : Nat} {C : Addr} {f : Str} {o e : Expr} {ta : TD} {pos pos' : Pos}
theorem d_fld (hc : Cls X.K C) (hn : NoAttr X.K C f) (he : PD X b e ta) (hb : attributeBase e f X.env (eval e X.env) = eval e X.env := by rfl) : PD X b (.Attribute e f pos) (wFld C f ta) := pe_weak (pe_fld he hb) fun σ H Q q => by
  obtain ⟨G, ρ, QD, w, q, k⟩ := q
  refine ⟨G, ρ, _, w, q, fun v H1 G1 r ρ1 w1 m1 q1 z => ?_⟩
  obtain ⟨l, e1, zz⟩ := lk_get z
  obtain ⟨d, e2, zz⟩ := lk_get zz
  cases e3 : con ρ1 r with
  | none => rw [e3] at e1; cases e1
  | some x =>
    rw [e3] at e1
    have e1' : insD C x = some l := e1
    cases x <;> try cases e1'
    rename_i C' l'
    unfold insD at e1'
    dsimp only at e1'
    split at e1'
    · rename_i hC
      subst hC
      cases e1'
      obtain ⟨a, dx, fs, rfl, h1, h2⟩ := (q1.rc w1 e3).ins w1.sub
      obtain ⟨u, h3, h4⟩ := h2.look e2
      exact ⟨a, _, dx, fs, u, rfl, h1, hc, hn, h3, k u H1 G1 (.dat d) ρ1 w1 m1 h4 zz⟩
    · cases e1'
theorem s_fld (hk : b.kp.map (·.1) = ks) (hc : Cls X.K C) (hn : NoAttr X.K C f) (ho : PE X o (tVar i)) (he : PD X b e ta) (hs : swapsWith e (some (.Attribute o f pos')) pos.line X.env = pure false := by rfl) : PSD X b (.Assign [.Attribute o f pos'] e pos) (wSetF ks i C f ta) :=
  ps_weak (ps_fld ho he hs) fun D σ H q => by
    obtain ⟨G, ρ, DD, w, q, n, _⟩ := q
    refine ⟨G, ρ, _, w, q, fun v H1 G1 r ρ1 w1 m1 q1 z => ?_⟩
    obtain ⟨p, e1, z⟩ := lk_get z
    obtain ⟨d, ρ2⟩ := p
    obtain ⟨G2, w2, m2, x2, r2, _⟩ := w1.frz hk m1 q1 e1
    dsimp only at z
    split at z
    · rename_i C' l hl
      obtain ⟨rfl, hz, z⟩ := z
      obtain ⟨a, h, y1, y2, y3, y4, y5⟩ := w2.own i _ hl
      cases y5 with
      | ins y5 =>
        rename_i dx fs
        obtain ⟨kp, dm⟩ := mut_kep (G := G2) (h' := .ins C' dx (putF f v fs)) y2
        exact ⟨.ref a, y1, a, C', dx, fs, rfl, y2, hc, hn, by rw [y5.len]; exact hz, n σ _ G2 _ (w2.chg hl y1 (w2.sub.over y3) (Ex.refl G2) kp upd_same y3 (.ins (y5.put r2))) m2.ex z⟩
    · exact z.elim
end

/-! ### what is walked -/
def listD : D → Option (List D)
  | .lst l => some l
  | .fzl l => some l
  | _ => none
theorem listD_ok {K : PySem.W.Frag} {G : Hp} {v : V} {d : D} {l : List D} (r : Rp K G v d) (e : listD d = some l) : ∃ a xs, v = .ref a ∧ SqL K G a xs ∧ RpA K G xs l := by
  cases r with
  | lst h1 h2 => cases e; exact ⟨_, _, rfl, SqL.of h1, h2⟩
  | fzl h1 h2 => cases e; exact ⟨_, _, rfl, h1, h2⟩
  | _ => cases e
def wItL (ks : List Nat) (ta : TD) : TID := fun ρ Q => ta ρ fun r ρ1 => lk (frz ks r ρ1) fun p => lk (listD p.1) fun l => Q l p.2
def wItT (ks : List Nat) (ta : TD) : TID := fun ρ Q => ta ρ fun r ρ1 => lk (frz ks r ρ1) fun p => match p.1 with
  | .tup l => Q l p.2
  | _ => False
def wItR1 (t : TAD) : TID := fun ρ Q => t ρ fun rs ρ1 => lk (conL ρ1 rs) fun ds => match ds with
  | [.int j] => -(2 ^ 62) ≤ j ∧ j < 2 ^ 62 ∧ Q ((List.range j.toNat).map fun n => .int (n : Nat)) ρ1
  | _ => False
def wItR2 (t : TAD) : TID := fun ρ Q => t ρ fun rs ρ1 => lk (conL ρ1 rs) fun ds => match ds with
  | [.int i, .int j] => (-(2 ^ 62) ≤ i ∧ i < 2 ^ 62 ∧ -(2 ^ 62) ≤ j ∧ j < 2 ^ 62) ∧ Q ((List.range (j - i).toNat).map fun n => .int (i + (n : Nat))) ρ1
  | _ => False
def enumD : Nat → List D → List D
  | _, [] => []
  | n, d :: ds => .wt [.int (n : Nat), d] :: enumD (n + 1) ds
def wItE (ks : List Nat) (t : TAD) : TID := fun ρ Q => t ρ fun rs ρ1 => lk (frzs ks rs ρ1) fun p => match p.1 with
  | [x] => lk (listD x) fun l => Q (enumD 0 l) p.2
  | _ => False
theorem enumD_at : ∀ {l : List D} {n i : Nat} {d : D}, (enumD n l)[i]? = some d → ∃ x, l[i]? = some x ∧ d = .wt [.int ((n + i : Nat) : Int), x]
  | [], n, i, d, h => by unfold enumD at h; simp at h
  | x :: l, n, 0, d, h => by unfold enumD at h; cases h; exact ⟨x, rfl, rfl⟩
  | x :: l, n, i + 1, d, h => by
    unfold enumD at h
    obtain ⟨y, h1, h2⟩ := enumD_at (l := l) (n := n + 1) (i := i) (by simpa using h)
    exact ⟨y, by simpa using h1, by rw [h2]; congr 3; omega⟩
theorem enumD_len : ∀ (l : List D) (n : Nat), (enumD n l).length = l.length
  | [], _ => rfl
  | _ :: l, n => congrArg (· + 1) (enumD_len l (n + 1))
theorem RpA.at {K : PySem.W.Frag} {G : Hp} : ∀ {xs : List V} {ds : List D}, RpA K G xs ds → ∀ {i : Nat} {d : D}, ds[i]? = some d → ∃ v, xs[i]? = some v ∧ Rp K G v d
  | _, _, .nil, i, d, h => by simp at h
  | _, _, .cons h _, 0, d, e => by cases e; exact ⟨_, rfl, h⟩
  | _, _, .cons _ r, i + 1, d, e => by
    obtain ⟨v, h1, h2⟩ := RpA.at r (i := i) (d := d) (by simpa using e)
    exact ⟨v, by simpa using h1, h2⟩
section
variable {K : PySem.W.Frag} {G : Hp} {a : Addr} {xs : List V} {ds : List D}
theorem itD_list (h : SqL K G a xs) (r : RpA K G xs ds) : ItD K (Itl K a) ds G := fun i H G1 x1 x2 => by
  have hH := x2.sql (x1.sql h)
  refine ⟨fun d e => ?_, fun hl => ⟨xs, hH, by rw [r.len]; exact hl⟩⟩
  obtain ⟨v, h1, h2⟩ := r.at e
  refine ⟨⟨xs, v, hH, h1⟩, fun x H' y => ?_⟩
  obtain ⟨rfl, y⟩ := y
  have := y xs hH
  rw [h1] at this
  cases this
  exact ⟨.d d, rfl, rfl, h2.up x1⟩
theorem itD_tup (h : SqT K G a xs) (r : RpA K G xs ds) : ItD K (Itt K a) ds G := fun i H G1 x1 x2 => by
  have hH := x2.sqt (x1.sqt h)
  refine ⟨fun d e => ?_, fun hl => ⟨xs, hH, by rw [r.len]; exact hl⟩⟩
  obtain ⟨v, h1, h2⟩ := r.at e
  refine ⟨⟨xs, v, hH, h1⟩, fun x H' y => ?_⟩
  obtain ⟨rfl, y⟩ := y
  have := y xs hH
  rw [h1] at this
  cases this
  exact ⟨.d d, rfl, rfl, h2.up x1⟩
theorem itD_enum (h : SqL K G a xs) (r : RpA K G xs ds) : ItD K (Ite K a) (enumD 0 ds) G := fun i H G1 x1 x2 => by
  have hH := x2.sql (x1.sql h)
  refine ⟨fun d e => ?_, fun hl => ⟨xs, hH, by rw [r.len, ← enumD_len ds 0]; exact hl⟩⟩
  obtain ⟨y, e1, rfl⟩ := enumD_at e
  obtain ⟨v, h1, h2⟩ := r.at e1
  refine ⟨⟨xs, v, hH, h1⟩, fun x H' q => ?_⟩
  obtain ⟨T, x', rfl, hT, rfl, q⟩ := q
  have := q xs hH
  rw [h1] at this
  cases this
  refine ⟨.w [.int ((0 + i : Nat) : Int), y], rfl, T, _, rfl, hT, rfl, ?_⟩
  rw [Nat.zero_add]
  exact .cons (.int _) (.cons (h2.up x1) .nil)
theorem itD_range (lo : Int) (n : Nat) : ItD K (Itr lo n) ((List.range n).map fun k => .int (lo + (k : Nat))) G := fun i H G1 x1 x2 => by
  refine ⟨fun d e => ?_, fun hl => by rw [List.length_map, List.length_range] at hl; exact hl⟩
  rw [List.getElem?_map] at e
  have hi : i < n := by
    cases q : (List.range n)[i]? with
    | none => rw [q] at e; cases e
    | some k => have := (List.getElem?_eq_some_iff.mp q).1; rw [List.length_range] at this; exact this
  rw [List.getElem?_range hi] at e
  cases e
  exact ⟨hi, fun x H' y => by obtain ⟨rfl, rfl⟩ := y; exact ⟨.d (.int (lo + (i : Nat))), rfl, rfl, .int _⟩⟩
end
section
variable {X : Cx} {b : Bas} {ks : List Nat} {e e2 tg : Expr} {ta : TD} {t : TAD} {p pos : Pos}
theorem i_weak {wi wi' : TI} (h : PI X tg e wi) (w : ∀ σ H R, wi' σ H R → wi σ H R) : PI X tg e wi' := ⟨fun pins s σ H R I q => h.run pins s σ H R I (w σ H R q)⟩
theorem i_list (hk : b.kp.map (·.1) = ks) (he : PD X b e ta) : PI X tg e (liftI X.K b (wItL ks ta)) := i_weak (pi_list he) fun σ H Rr q => by
  obtain ⟨G, ρ, QD, w, q, k⟩ := q
  refine ⟨G, ρ, _, w, q, fun v H1 G1 r ρ1 w1 m1 q1 z => ?_⟩
  obtain ⟨p, e1, z⟩ := lk_get z
  obtain ⟨d, ρ2⟩ := p
  obtain ⟨G2, w2, m2, x2, r2, _⟩ := w1.frz hk m1 q1 e1
  obtain ⟨l, e2, z⟩ := lk_get z
  obtain ⟨a, xs, rfl, h1, h2⟩ := listD_ok r2 e2
  exact ⟨_, rfl, ⟨_, w2.sub.sql h1⟩, k _ H1 G2 _ ρ2 w2 m2 (itD_list h1 h2) z⟩
theorem i_tup (hk : b.kp.map (·.1) = ks) (he : PD X b e ta) : PI X tg e (liftI X.K b (wItT ks ta)) := i_weak (pi_tup he) fun σ H Rr q => by
  obtain ⟨G, ρ, QD, w, q, k⟩ := q
  refine ⟨G, ρ, _, w, q, fun v H1 G1 r ρ1 w1 m1 q1 z => ?_⟩
  obtain ⟨p, e1, z⟩ := lk_get z
  obtain ⟨d, ρ2⟩ := p
  obtain ⟨G2, w2, m2, x2, r2, _⟩ := w1.frz hk m1 q1 e1
  cases d <;> try exact z.elim
  cases r2 with
  | tup h1 h2 => exact ⟨_, rfl, ⟨_, w2.sub.sqt h1.1⟩, k _ H1 G2 _ ρ2 w2 m2 (itD_tup h1.1 h2) z⟩
theorem pair_int {xs : List V} {H G : Hp} {K : PySem.W.Frag} {j : Int} (h : Paired (Rc K H G) xs [.int j]) : xs = [.int j] := by
  cases h with | cons h1 h2 => cases h2; rw [h1.int]
theorem pair_int2 {xs : List V} {H G : Hp} {K : PySem.W.Frag} {i j : Int} (h : Paired (Rc K H G) xs [.int i, .int j]) : xs = [.int i, .int j] := by
  cases h with | cons h1 h2 => cases h2 with | cons h2 h3 => cases h3; rw [h1.int, h2.int]
theorem i_range1 (hg : Gl X "range") (hm : X.mg "range" = none) (ha : PAD X b [e] t) (hs : starEach [e] X.env = [(false, eval e X.env)] := by rfl) : PI X tg (.Call (.Name "range" p) [e] [] pos) (liftI X.K b (wItR1 t)) := i_weak (pi_range1 hg hm ha hs) fun σ H Rr q => by
  obtain ⟨G, ρ, QD, w, q, k⟩ := q
  refine ⟨G, ρ, _, w, q, fun vs H1 G1 rs ρ1 w1 m1 q1 z => ?_⟩
  obtain ⟨ds, e1, z⟩ := lk_get z
  have pr := q1.rc w1 e1
  split at z
  · rename_i j
    obtain rfl := pair_int pr
    have it := itD_range (K := X.K) (G := G1) 0 j.toNat
    have e0 : ((List.range j.toNat).map fun k => D.int (0 + (k : Nat))) = (List.range j.toNat).map fun n => D.int (n : Nat) := List.map_congr_left fun n _ => by rw [Int.zero_add]
    rw [e0] at it
    exact ⟨j, rfl, z.1, z.2.1, k _ H1 G1 _ ρ1 w1 m1 it z.2.2⟩
  · exact z.elim
theorem i_range2 (hg : Gl X "range") (hm : X.mg "range" = none) (ha : PAD X b [e, e2] t) (hs : starEach [e, e2] X.env = [(false, eval e X.env), (false, eval e2 X.env)] := by rfl) (hs2 : starEach [e2] X.env = [(false, eval e2 X.env)] := by rfl) :
    PI X tg (.Call (.Name "range" p) [e, e2] [] pos) (liftI X.K b (wItR2 t)) := i_weak (pi_range2 hg hm ha hs hs2) fun σ H Rr q => by
  obtain ⟨G, ρ, QD, w, q, k⟩ := q
  refine ⟨G, ρ, _, w, q, fun vs H1 G1 rs ρ1 w1 m1 q1 z => ?_⟩
  obtain ⟨ds, e1, z⟩ := lk_get z
  have pr := q1.rc w1 e1
  split at z
  · rename_i i j
    obtain rfl := pair_int2 pr
    exact ⟨i, j, rfl, z.1, k _ H1 G1 _ ρ1 w1 m1 (itD_range i (j - i).toNat) z.2⟩
  · exact z.elim
theorem i_enum {tpos : Pos} {elts : List Expr} {kk : Nat} (hk : b.kp.map (·.1) = ks) (hg : Gl X "enumerate") (hm : X.mg "enumerate" = none) (ha : PAD X b [e] t) (hs : starEach [e] X.env = [(false, eval e X.env)] := by rfl) :
    PI X (.Tuple elts kk tpos) (.Call (.Name "enumerate" p) [e] [] pos) (liftI X.K b (wItE ks t)) := i_weak (pi_enum hg hm ha hs) fun σ H Rr q => by
  obtain ⟨G, ρ, QD, w, q, k⟩ := q
  refine ⟨G, ρ, _, w, q, fun vs H1 G1 rs ρ1 w1 m1 q1 z => ?_⟩
  obtain ⟨p, e1, z⟩ := lk_get z
  obtain ⟨ds, ρ2⟩ := p
  obtain ⟨G2, w2, m2, r2, x2⟩ := Rel.frzs hk w1 m1 q1 e1
  dsimp only at z
  split at z
  · rename_i x
    obtain ⟨l, e2, z⟩ := lk_get z
    cases r2 with
    | cons h1 h2 =>
      cases h2
      obtain ⟨a, xs, rfl, h1, h2⟩ := listD_ok h1 e2
      exact ⟨_, _, rfl, w2.sub.sql h1, k _ H1 G2 _ ρ2 w2 m2 (itD_enum h1 h2) z⟩
  · exact z.elim
end
end DL

set_option Elab.async false
set_option maxRecDepth 100000
set_option maxHeartbeats 4000000
/-! DL7: list comprehensions over data. -/
namespace DL
open PySem PySem.Spec PyProof.Rows L2

def wipR (ρ : Rho) : List Nat → Rho
  | [] => ρ
  | v :: vs => (wipR ρ vs).set v .no
def unw : List Nat → Rho → Rho → Rho
  | [], _, ρ2 => ρ2
  | v :: vs, ρ1, ρ2 => (unw vs ρ1 ρ2).set v ((ρ1[v]?).getD .no)
theorem wipe_at (σ : L2.St) : ∀ (vs : List Nat) (j : Nat), (wipe σ vs)[j]? = if j ∈ vs then (σ[j]?).map (fun _ => none) else σ[j]?
  | [], j => by simp [wipe]
  | v :: vs, j => by
    show ((wipe σ vs).set v none)[j]? = _
    by_cases e : j = v
    · subst e
      rw [if_pos List.mem_cons_self]
      by_cases hl : j < σ.length
      · rw [set_eq (by rw [wipe_length]; exact hl), List.getElem?_eq_getElem hl]; rfl
      · rw [List.getElem?_eq_none (by rw [List.length_set, wipe_length]; omega), List.getElem?_eq_none (by omega)]; rfl
    · rw [set_ne e, wipe_at σ vs j]
      by_cases h : j ∈ vs
      · rw [if_pos h, if_pos (List.mem_cons_of_mem _ h)]
      · rw [if_neg h, if_neg (fun z => by rcases List.mem_cons.mp z with z | z; exact e z; exact h z)]
theorem wipR_len (ρ : Rho) : ∀ vs : List Nat, (wipR ρ vs).length = ρ.length
  | [] => rfl
  | v :: vs => by show ((wipR ρ vs).set v .no).length = _; rw [List.length_set]; exact wipR_len ρ vs
theorem wipR_out (ρ : Rho) : ∀ {vs : List Nat} {j : Nat}, j ∉ vs → (wipR ρ vs)[j]? = ρ[j]?
  | [], j, _ => rfl
  | v :: vs, j, h => by
    show ((wipR ρ vs).set v .no)[j]? = _
    rw [set_ne (fun z => h (by rw [z]; exact List.mem_cons_self))]
    exact wipR_out ρ fun z => h (List.mem_cons_of_mem _ z)
theorem wipR_in (ρ : Rho) : ∀ {vs : List Nat} {j : Nat} {s : Sl}, j ∈ vs → (wipR ρ vs)[j]? = some s → s = .no
  | v :: vs, j, s, h, e => by
    have e' : ((wipR ρ vs).set v .no)[j]? = some s := e
    rcases set_at e' with ⟨rfl, z, _⟩ | ⟨hn, z⟩
    · exact z
    · exact wipR_in ρ (by rcases List.mem_cons.mp h with h | h; exact absurd h hn; exact h) z
theorem unw_len (ρ1 ρ2 : Rho) : ∀ vs : List Nat, (unw vs ρ1 ρ2).length = ρ2.length
  | [] => rfl
  | v :: vs => by show ((unw vs ρ1 ρ2).set v _).length = _; rw [List.length_set]; exact unw_len ρ1 ρ2 vs
theorem unw_out (ρ1 ρ2 : Rho) : ∀ {vs : List Nat} {j : Nat}, j ∉ vs → (unw vs ρ1 ρ2)[j]? = ρ2[j]?
  | [], j, _ => rfl
  | v :: vs, j, h => by
    show ((unw vs ρ1 ρ2).set v _)[j]? = _
    rw [set_ne (fun z => h (by rw [z]; exact List.mem_cons_self))]
    exact unw_out ρ1 ρ2 fun z => h (List.mem_cons_of_mem _ z)
theorem unw_in (ρ1 ρ2 : Rho) : ∀ {vs : List Nat} {j : Nat} {s : Sl}, j ∈ vs → (unw vs ρ1 ρ2)[j]? = some s → s = .no ∨ ρ1[j]? = some s
  | v :: vs, j, s, h, e => by
    have e' : ((unw vs ρ1 ρ2).set v ((ρ1[v]?).getD .no))[j]? = some s := e
    rcases set_at e' with ⟨rfl, z, _⟩ | ⟨hn, z⟩
    · cases q : ρ1[j]? with
      | none => rw [q] at z; exact .inl z
      | some t => rw [q] at z; exact .inr (by rw [z]; rfl)
    · exact unw_in ρ1 ρ2 (by rcases List.mem_cons.mp h with h | h; exact absurd h hn; exact h) z
section
variable {K : PySem.W.Frag} {b : Bas} {σ : L2.St} {H G : Hp} {ρ : Rho} {vs : List Nat}
theorem Rel.wipe (w : Rel K b σ H G ρ) (hk : ∀ p ∈ b.kp, p.1 ∉ vs) : Rel K b (L2.wipe σ vs) H G (wipR ρ vs) := by
  have out : ∀ {j : Nat} {s : Sl}, s ≠ .no → (wipR ρ vs)[j]? = some s → j ∉ vs ∧ ρ[j]? = some s := fun {j s} hs e => by
    by_cases h : j ∈ vs
    · exact absurd (wipR_in ρ h e) hs
    · rw [wipR_out ρ h] at e; exact ⟨h, e⟩
  have at_ : ∀ {j : Nat}, j ∉ vs → (L2.wipe σ vs)[j]? = σ[j]? := fun {j} h => by rw [wipe_at, if_neg h]
  refine ⟨w.sub, w.bas, w.gro, w.prt, by rw [wipe_length, wipR_len]; exact w.len, fun j d e => ?_, fun j o e => ?_, fun i j o o' a e1 e2 e3 e4 => ?_, fun p hp => ?_⟩
  · obtain ⟨h, e⟩ := out (by intro z; cases z) e
    rw [at_ h]; exact w.dat j d e
  · obtain ⟨h, e⟩ := out (by intro z; cases z) e
    rw [at_ h]; exact w.own j o e
  · obtain ⟨h1, e1⟩ := out (by intro z; cases z) e1
    obtain ⟨h2, e2⟩ := out (by intro z; cases z) e2
    rw [at_ h1] at e3
    rw [at_ h2] at e4
    exact w.dis i j o o' a e1 e2 e3 e4
  · have h := hk p hp
    rw [at_ h, wipR_out ρ h]; exact w.kep p hp
/-- the names of the comprehension are the frame's own again -/
theorem Rel.unwipe {H1 G1 : Hp} {ρ1 ρ2 : Rho} (w1 : Rel K b σ H1 G1 ρ1) (w2 : Rel K b (L2.wipe σ vs) H G ρ2) (x : Ex G1 G) (hv : ∀ v ∈ vs, ∀ o, ρ1[v]? ≠ some (.own o)) (hk : ∀ p ∈ b.kp, p.1 ∉ vs) : Rel K b σ H G (unw vs ρ1 ρ2) := by
  have at_ : ∀ {j : Nat}, j ∉ vs → (L2.wipe σ vs)[j]? = σ[j]? := fun {j} h => by rw [wipe_at, if_neg h]
  have own_ : ∀ {j : Nat} {o : Own}, (unw vs ρ1 ρ2)[j]? = some (.own o) → j ∉ vs ∧ ρ2[j]? = some (.own o) := fun {j o} e => by
    by_cases h : j ∈ vs
    · rcases unw_in ρ1 ρ2 h e with z | z
      · cases z
      · exact absurd z (hv j h o)
    · rw [unw_out ρ1 ρ2 h] at e; exact ⟨h, e⟩
  refine ⟨w2.sub, w2.bas, w2.gro, w2.prt, by rw [unw_len, ← w2.len, wipe_length], fun j d e => ?_, fun j o e => ?_, fun i j o o' a e1 e2 e3 e4 => ?_, fun p hp => ?_⟩
  · by_cases h : j ∈ vs
    · rcases unw_in ρ1 ρ2 h e with z | z
      · cases z
      · obtain ⟨v, y1, y2⟩ := w1.dat j d z
        exact ⟨v, y1, y2.up x⟩
    · rw [unw_out ρ1 ρ2 h] at e
      rw [← at_ h]
      exact w2.dat j d e
  · obtain ⟨h, e⟩ := own_ e
    rw [← at_ h]; exact w2.own j o e
  · obtain ⟨h1, e1⟩ := own_ e1
    obtain ⟨h2, e2⟩ := own_ e2
    rw [← at_ h1] at e3
    rw [← at_ h2] at e4
    exact w2.dis i j o o' a e1 e2 e3 e4
  · have h := hk p hp
    rw [← at_ h, unw_out ρ1 ρ2 h]; exact w2.kep p hp
/-- an object that is nobody's is changed -/
theorem Rel.touch {p : Addr} {h h' : HO} (w : Rel K b σ H G ρ) (hp : H p = some h) (hg : G p = none) (hb : b.B p = none) (hn : ∀ (i : Nat) (o' : Own), ρ[i]? = some (.own o') → σ[i]? ≠ some (some (.ref p))) : Rel K b σ (upd H p h') G ρ where
  sub := w.sub.over hg
  bas := w.bas.over hb
  gro := w.gro
  prt := w.prt
  len := w.len
  dat := w.dat
  own := fun i o e => by
    obtain ⟨a, u, z1, z2, z3⟩ := w.own i o e
    exact ⟨a, u, z1, by rw [upd_ne (fun z => hn i o e (by rw [← z]; exact z1))]; exact z2, z3⟩
  dis := w.dis
  kep := w.kep
end

def compL (ks : List Nat) (g : GD) (tt : TTD) (te : TD) (vs : List Nat) : List D → List D → Rho → (List D → Rho → Prop) → Prop
  | [], acc, ρ, Q => Q acc ρ
  | d :: ds, acc, ρ, Q => g d ρ fun ρ1 => tt ρ1 fun c ρ2 => if c = true then te ρ2 fun r ρ3 => lk (frz ks r ρ3) fun p => acc.length < sizeLine ∧ compL ks g tt te vs ds (acc ++ [p.1]) (wipR p.2 vs) Q else compL ks g tt te vs ds acc (wipR ρ2 vs) Q
def wLc (ks : List Nat) (ti : TID) (g : GD) (tt : TTD) (te : TD) (vs : List Nat) : TD := fun ρ Q => ti ρ fun ds ρ1 => (∀ v ∈ vs, v ∉ ks ∧ ∀ o, ρ1[v]? ≠ some (.own o)) ∧ compL ks g tt te vs ds [] (wipR ρ1 vs) fun acc ρ2 => Q (.own (.lst acc)) (unw vs ρ1 ρ2)
def wYes : TTD := fun ρ Q => Q true ρ
theorem RpA.snoc {K : PySem.W.Frag} {G : Hp} {v : V} {d : D} (q : Rp K G v d) : ∀ {xs : List V} {ds : List D}, RpA K G xs ds → RpA K G (xs ++ [v]) (ds ++ [d])
  | _, _, .nil => .cons q .nil
  | _, _, .cons h r => .cons h (r.snoc q)
theorem lc_go {K : PySem.W.Frag} {b : Bas} {ks is vs : List Nat} {ti : TID} {g : GD} {tt : TTD} {te : TD} (hk : b.kp.map (·.1) = ks) (hi : ∀ i ∈ is, i ∈ vs) {σ : L2.St} {H : Hp} {Q : VK} (q : lift K b (wLc ks ti g tt te vs) σ H Q) :
    tLc (liftI K b ti) (liftG K b is g) (liftT K b tt) (lift K b te) vs σ H Q := by
  obtain ⟨G, ρ, QD, w, q, k⟩ := q
  refine ⟨G, ρ, _, w, q, fun J H1 G1 ds ρ1 w1 m1 it z D hD => ?_⟩
  obtain ⟨hv, z⟩ := z
  have hkv : ∀ p ∈ b.kp, p.1 ∉ vs := fun p hp h => (hv p.1 h).1 (by rw [← hk]; exact List.mem_map_of_mem hp)
  have ww := w1.wipe hkv
  have hBD : b.B D = none := w1.bas.gone hD
  refine ⟨fun i m Hh => m = ds.length - i ∧ ∃ G2 ρ2 acc xs, Rel K b (L2.wipe σ vs) Hh G2 ρ2 ∧ Fm (L2.wipe σ vs) (wipR ρ1 vs) H1 G1 ρ2 Hh G2 ∧ Hh D = some (.lst xs) ∧ G2 D = none ∧ RpA K G2 xs acc ∧ (∀ v ∈ vs, ∀ s, ρ2[v]? = some s → s = .no) ∧
    compL ks g tt te vs (ds.drop i) acc ρ2 (fun acc ρ2 => QD (.own (.lst acc)) (unw vs ρ1 ρ2)), ⟨ds.length, (Nat.sub_zero _).symm, G1, wipR ρ1 vs, [], [], ww.new hD, ww.newF hD, upd_same, w1.sub.gone hD, .nil, fun v h s e => wipR_in ρ1 h e, z⟩, fun i m H2 q2 => ?_⟩
  obtain ⟨rfl, G2, ρ2, acc, xs, w2, m2, hD2, gD2, ra, nv, z2⟩ := q2
  have un2 : ∀ {ρ3 : Rho}, (∀ (j : Nat) (o : Own), ρ3[j]? = some (.own o) → ∃ o', (wipR ρ1 vs)[j]? = some (.own o')) → ∀ (j : Nat) (o : Own), ρ3[j]? = some (.own o) → (L2.wipe σ vs)[j]? ≠ some (some (.ref D)) := fun {ρ3} h j o e y => by
    obtain ⟨o', e'⟩ := h j o e
    exact ww.apart hD j o' e' y
  cases e : ds[i]? with
  | none =>
    have hl : ds.length ≤ i := List.getElem?_eq_none_iff.mp e
    rw [List.drop_eq_nil_of_le hl] at z2
    have x2 := m2.ex
    have w3 := Rel.unwipe w1 w2 x2 (fun v h => (hv v h).2) hkv
    have owv : ∀ (j : Nat) (o : Own), (unw vs ρ1 ρ2)[j]? = some (.own o) → j ∉ vs ∧ ρ2[j]? = some (.own o) := fun j o e => by
      by_cases h : j ∈ vs
      · rcases unw_in ρ1 ρ2 h e with z | z
        · cases z
        · exact absurd z ((hv j h).2 o)
      · rw [unw_out ρ1 ρ2 h] at e; exact ⟨h, e⟩
    have m3 : Fm σ ρ1 H1 G1 (unw vs ρ1 ρ2) H2 G2 := by
      refine ⟨x2, fun a o h n => m2.kp a o h fun j o' y => ?_, fun j o y => ?_, m2.dm⟩
      · have hj : j ∉ vs := fun hj => by have := wipR_in ρ1 hj y; cases this
        rw [wipR_out ρ1 hj] at y
        rw [wipe_at, if_neg hj]
        exact n j o' y
      · obtain ⟨hj, y⟩ := owv j o y
        obtain ⟨o', y⟩ := m2.ow j o y
        rw [wipR_out ρ1 hj] at y
        exact ⟨o', y⟩
    refine .inl ⟨(it i H2 G2 x2 w2.sub).2 hl, k (.ref D) H2 G2 (.own (.lst acc)) _ w3 (m1.trans m3) ⟨D, _, rfl, hD2, gD2, hBD, .lst ra, fun j o y => ?_, m1.dm D hD⟩ z2⟩
    obtain ⟨hj, y⟩ := owv j o y
    have := un2 m2.ow j o y
    rw [wipe_at, if_neg hj] at this
    exact this
  | some d =>
    rw [drop_at e] at z2
    obtain ⟨g1, g2⟩ := (it i H2 G2 m2.ex w2.sub).1 d e
    have hl : i < ds.length := (List.getElem?_eq_some_iff.mp e).1
    -- what a turn is to reach
    refine .inr ⟨g1, fun Hh => ∃ G2 ρ2 acc xs, Rel K b (L2.wipe σ vs) Hh G2 ρ2 ∧ Fm (L2.wipe σ vs) (wipR ρ1 vs) H1 G1 ρ2 Hh G2 ∧ Hh D = some (.lst xs) ∧ G2 D = none ∧ RpA K G2 xs acc ∧ (∀ v ∈ vs, ∀ s, ρ2[v]? = some s → s = .no) ∧
      compL ks g tt te vs (ds.drop (i + 1)) acc ρ2 (fun acc ρ2 => QD (.own (.lst acc)) (unw vs ρ1 ρ2)), fun H' h => ⟨ds.length - (i + 1), by omega, rfl, h⟩, fun x H' y => ?_⟩
    obtain ⟨zz, ez, o⟩ := g2 x H' y
    obtain ⟨G3, w3, m3, q3⟩ := o.go w2
    rw [ez] at q3
    refine ⟨G3, ρ2, d, _, w3, q3, z2, fun σ4 ρ4 w4 len4 out4 outr4 own4 z4 => ?_⟩
    have ew : L2.wipe σ4 vs = L2.wipe σ vs := by
      refine List.ext_getElem? fun j => ?_
      rw [wipe_at, wipe_at]
      by_cases hj : j ∈ vs
      · rw [if_pos hj, if_pos hj]
        have l1 : σ4.length = σ.length := by rw [len4, wipe_length]
        by_cases hl : j < σ.length
        · rw [List.getElem?_eq_getElem hl, List.getElem?_eq_getElem (by omega)]; rfl
        · rw [List.getElem?_eq_none (by omega), List.getElem?_eq_none (by omega)]
      · rw [if_neg hj, if_neg hj, out4 j fun h => hj (hi j h), wipe_at, if_neg hj]
    refine ⟨ew, G3, ρ4, _, w4, z4, fun c H5 G5 ρ5 w5 m5 z5 => ?_⟩
    -- the frame's memory over the block
    have conv : ∀ {H6 G6 : Hp} {ρ6 : Rho}, Fm σ4 ρ4 H' G3 ρ6 H6 G6 → Fm (L2.wipe σ vs) ρ2 H' G3 ρ6 H6 G6 := fun {H6 G6 ρ6} m => by
      refine ⟨m.ex, fun a o h n => m.kp a o h fun j o' y => ?_, fun j o y => ?_, m.dm⟩
      · have y2 := own4 j o' y
        have hj : j ∉ vs := fun hj => by have := nv j hj _ y2; cases this
        rw [out4 j fun h => hj (hi j h)]
        exact n j o' y2
      · obtain ⟨o', y⟩ := m.ow j o y
        exact ⟨o', own4 j o' y⟩
    have fin : ∀ {H6 G6 : Hp} {ρ6 : Rho} {acc' : List DL.D} {xs' : List V}, Rel K b σ4 H6 G6 ρ6 → Fm (L2.wipe σ vs) (wipR ρ1 vs) H1 G1 ρ6 H6 G6 → H6 D = some (.lst xs') → G6 D = none → RpA K G6 xs' acc' →
        compL ks g tt te vs (ds.drop (i + 1)) acc' (wipR ρ6 vs) (fun acc ρ2 => QD (.own (.lst acc)) (unw vs ρ1 ρ2)) → ∃ G2 ρ2 acc xs, Rel K b (L2.wipe σ vs) H6 G2 ρ2 ∧ Fm (L2.wipe σ vs) (wipR ρ1 vs) H1 G1 ρ2 H6 G2 ∧ H6 D = some (.lst xs) ∧ G2 D = none ∧ RpA K G2 xs acc ∧ (∀ v ∈ vs, ∀ s, ρ2[v]? = some s → s = .no) ∧
          compL ks g tt te vs (ds.drop (i + 1)) acc ρ2 (fun acc ρ2 => QD (.own (.lst acc)) (unw vs ρ1 ρ2)) := fun {H6 G6 ρ6 acc' xs'} w6 m6 h1 h2 h3 h4 => by
      have w7 := w6.wipe (vs := vs) hkv
      rw [ew] at w7
      refine ⟨G6, wipR ρ6 vs, acc', xs', w7, ⟨m6.ex, m6.kp, fun j o y => ?_, m6.dm⟩, h1, h2, h3, fun v h s e => wipR_in ρ6 h e, h4⟩
      have hj : j ∉ vs := fun hj => by have := wipR_in ρ6 hj y; cases this
      rw [wipR_out ρ6 hj] at y
      exact m6.ow j o y
    have keepD : ∀ {Ha Ga Hb Gb : Hp} {ρa ρb : Rho}, Fm (L2.wipe σ vs) ρa Ha Ga ρb Hb Gb → (∀ (j : Nat) (o : Own), ρa[j]? = some (.own o) → ∃ o', (wipR ρ1 vs)[j]? = some (.own o')) → Ha D = some (.lst xs) → Ga D = none → Hb D = some (.lst xs) ∧ Gb D = none := fun {Ha Ga Hb Gb ρa ρb} m h h1 h2 => by
      obtain ⟨y1, y2⟩ := m.kp D _ h1 (un2 h)
      exact ⟨y1, y2 h2⟩
    obtain ⟨hD3, gD3⟩ := keepD m3 m2.ow hD2 gD2
    have m23 := m2.trans m3
    have m5' := conv m5
    obtain ⟨hD5, gD5⟩ := keepD m5' m2.ow hD3 gD3
    cases c with
    | false =>
      exact iteF (fin w5 (m23.trans m5') hD5 gD5 (ra.up (m3.ex.trans m5.ex)) z5)
    | true =>
      refine iteT ⟨G5, ρ5, _, w5, z5, fun u H6 G6 r ρ6 w6 m6 q6 z6 => ?_⟩
      obtain ⟨p, e6, hz, z6⟩ := lk_get z6
      obtain ⟨dd, ρ7⟩ := p
      have m56 := m5.trans m6
      obtain ⟨G7, w7, m7, x7, r7, _⟩ := w6.frz hk m56 (q6.back m5.dm) e6
      have m7' := conv m7
      obtain ⟨hD7, gD7⟩ := keepD m7' m2.ow hD3 gD3
      have x37 := m3.ex.trans m7.ex
      refine ⟨xs, hD7, by rw [ra.len]; exact hz, ?_⟩
      -- D unowned in the last frame
      have un7 : ∀ (j : Nat) (o : Own), ρ7[j]? = some (.own o) → σ4[j]? ≠ some (some (.ref D)) := fun j o y => by
        obtain ⟨o4, y4⟩ := m7.ow j o y
        have y2 := own4 j o4 y4
        have hj : j ∉ vs := fun hj => by have := nv j hj _ y2; cases this
        rw [out4 j fun h => hj (hi j h)]
        exact un2 m2.ow j o4 y2
      have m8 : Fm (L2.wipe σ vs) (wipR ρ1 vs) H1 G1 ρ7 (upd H6 D (.lst (xs ++ [u]))) G7 := by
        have m9 := m23.trans m7'
        refine ⟨m9.ex, fun a o h n => ?_, m9.ow, fun a h => ?_⟩
        · obtain ⟨y1, y2⟩ := m9.kp a o h n
          exact ⟨by rw [upd_ne (ne_of_none h hD)]; exact y1, y2⟩
        · by_cases ha : a = D
          · subst ha; exact hD
          · rw [upd_ne ha] at h; exact m9.dm a h
      exact fin (w7.touch hD7 gD7 hBD un7) m8 upd_same gD7 (RpA.snoc r7 (ra.up x37)) z6
section
variable {X : Cx} {b : Bas} {ks is : List Nat}
/-- what a block of a comprehension is judged in -/
abbrev Blk (X : Cx) (scope : Scope) (P : Cx → Prop) : Prop := ∀ (s : Shared) (H : Hp) (C : Addr) (cl : List (Str × Addr)) (fp : List Addr), P (X.blk s H scope (compEnvC scope cl C X.env) fp)
theorem d_lc {elt tg iter : Expr} {ifs : List Expr} {scope : Scope} {own : List (Str × Nat)} {pos : Pos} {ti : TID} {g : GD} {tt : TTD} {te : TD} (hk : b.kp.map (·.1) = ks) (hi : ∀ i ∈ is, i ∈ own.map (·.2)) (hc : X.calm = true) (hN : X.N.Nodup) (h : PI X tg iter (liftI X.K b ti)) (ok : BlkOk X.N X.env.scope scope own)
    (hg : Blk X scope fun Y => PG Y tg (liftG X.K b is g)) (ht : Blk X scope fun Y => PTs Y ifs (liftT X.K b tt)) (he : Blk X scope fun Y => PE Y elt (lift X.K b te)) (hs : ∀ x, foldedSetIterable iter X.env x = pure x := by intro _; rfl) :
    PD X b (.ListComp elt [⟨tg, iter, ifs, 0⟩] scope pos) (wLc ks ti g tt te (own.map (·.2))) := pe_weak (pe_lc hc hN h ok hg ht he hs) fun _ _ _ q => lc_go hk hi q
theorem s_setLc {i : Nat} {y : Str} {py spos : Pos} {elt tg iter : Expr} {ifs : List Expr} {scope : Scope} {own : List (Str × Nat)} {pos : Pos} {ti : TID} {g : GD} {tt : TTD} {te : TD} (hk : b.kp.map (·.1) = ks) (hi : ∀ i ∈ is, i ∈ own.map (·.2)) (hc : X.calm = true) (hN : X.N.Nodup) (hy : X.N[i]? = some y) (hl : X.env.scope.names.lookup y = some .local)
    (hsw : swapsWith (.ListComp elt [⟨tg, iter, ifs, 0⟩] scope pos) (some (.Name y py)) spos.line X.env = pure true) (h : PI X tg iter (liftI X.K b ti)) (ok : BlkOk X.N X.env.scope scope own)
    (hg : Blk X scope fun Y => PG Y tg (liftG X.K b is g)) (ht : Blk X scope fun Y => PTs Y ifs (liftT X.K b tt)) (he : Blk X scope fun Y => PE Y elt (lift X.K b te)) (hs : ∀ x, foldedSetIterable iter X.env x = pure x := by intro _; rfl) :
    PSD X b (.Assign [.Name y py] (.ListComp elt [⟨tg, iter, ifs, 0⟩] scope pos) spos) (wAsg ks i (wLc ks ti g tt te (own.map (·.2)))) := ps_weak (ps_setLc hc hN hy hl hsw h ok hg ht he hs) fun _ _ _ q => lc_go hk hi (asg_go hk q)
theorem ts_nil {Y : Cx} : PTs Y [] (liftT Y.K b wYes) := ⟨fun pins s σ H Q I q => by
  obtain ⟨G, ρ, QD, w, q, k⟩ := q
  exact pts_nil.run pins s σ H Q I (k true H G ρ w (Fm.refl σ ρ H G) q)⟩
theorem ts_one {Y : Cx} {c : Expr} {tt : TTD} (h : PTD Y b c tt) : PTs Y [c] (liftT Y.K b tt) := pts_one h
end
end DL

set_option Elab.async false
set_option maxRecDepth 100000
set_option maxHeartbeats 4000000
/-! DL8: operations over data. -/
namespace DL
open PySem PySem.Spec PyProof.Rows L2

/-! ### whole numbers -/
def gInt (f : Int → Int → Option D) : D → D → Option Z
  | .int i, .int j => (f i j).map .d
  | _, _ => none
theorem op2_int {K : PySem.W.Frag} {r : R2} {f : Int → Int → Option D} (h : ∀ i j d v H (Q : VK), f i j = some d → vD d = some v → Q v H → r (.int i) (.int j) H Q) (hs : ∀ i j d, f i j = some d → ∃ v, vD d = some v) : Op2 K r (gInt f) := fun H G x y d e z Q _ rx ry hz k => by
  cases d <;> try cases hz
  cases e <;> try cases hz
  rename_i i j
  obtain rfl := rx.int
  obtain rfl := ry.int
  cases q : f i j with
  | none => rw [show gInt f (.int i) (.int j) = (f i j).map .d from rfl, q] at hz; cases hz
  | some d =>
    rw [show gInt f (.int i) (.int j) = (f i j).map .d from rfl, q] at hz
    cases hz
    obtain ⟨v, hv⟩ := hs i j d q
    exact h i j d v H Q q hv (k v H ⟨rfl, rp_vD hv⟩)
def fAdd (i j : Int) : Option D := some (.int (i + j))
def fSub (i j : Int) : Option D := some (.int (i - j))
def fMul (i j : Int) : Option D := if i.natAbs.log2 + j.natAbs.log2 < 1000000 then some (.int (i * j)) else none
def fDiv (i j : Int) : Option D := if 0 < j ∧ j.natAbs.log2 < 9000 then some (.int (i / j)) else none
def fMod (i j : Int) : Option D := if 0 < j then some (.int (i % j)) else none
def fPow (i j : Int) : Option D := if 0 ≤ j ∧ j ≤ 1000000 ∧ i.natAbs < 2 ^ 64 then some (.int (i ^ j.toNat)) else none
def fLt (i j : Int) : Option D := some (.bl (decide (i < j)))
def fLe (i j : Int) : Option D := some (.bl (decide (i ≤ j)))
def fGt (i j : Int) : Option D := some (.bl (decide (j < i)))
def fGe (i j : Int) : Option D := some (.bl (decide (j ≤ i)))
section
variable {K : PySem.W.Frag}
theorem o_sub : Op2 K (rI0 fun i j => .int (i - j)) (gInt fSub) := op2_int (fun i j d v H Q e hv q => by cases e; cases hv; exact ⟨i, j, rfl, rfl, q⟩) fun i j d e => by cases e; exact ⟨_, rfl⟩
theorem o_mul : Op2 K (rI CMulW fun i j => .int (i * j)) (gInt fMul) := op2_int (fun i j d v H Q e hv q => by
  unfold fMul at e
  split at e
  · rename_i h; cases e; cases hv; exact ⟨i, j, rfl, rfl, h, q⟩
  · cases e) fun i j d e => by
  unfold fMul at e
  split at e
  · cases e; exact ⟨_, rfl⟩
  · cases e
theorem o_div : Op2 K (rI CDivW fun i j => .int (i / j)) (gInt fDiv) := op2_int (fun i j d v H Q e hv q => by
  unfold fDiv at e
  split at e
  · rename_i h; cases e; cases hv; exact ⟨i, j, rfl, rfl, h, q⟩
  · cases e) fun i j d e => by
  unfold fDiv at e
  split at e
  · cases e; exact ⟨_, rfl⟩
  · cases e
theorem o_mod : Op2 K (rI (fun _ j => 0 < j) fun i j => .int (i % j)) (gInt fMod) := op2_int (fun i j d v H Q e hv q => by
  unfold fMod at e
  split at e
  · rename_i h; cases e; cases hv; exact ⟨i, j, rfl, rfl, h, q⟩
  · cases e) fun i j d e => by
  unfold fMod at e
  split at e
  · cases e; exact ⟨_, rfl⟩
  · cases e
theorem o_pow : Op2 K (rI CPow fun i j => .int (i ^ j.toNat)) (gInt fPow) := op2_int (fun i j d v H Q e hv q => by
  unfold fPow at e
  split at e
  · rename_i h; cases e; cases hv; exact ⟨i, j, rfl, rfl, h, q⟩
  · cases e) fun i j d e => by
  unfold fPow at e
  split at e
  · cases e; exact ⟨_, rfl⟩
  · cases e
theorem o_lt : Op2 K (rI0 fun i j => .bl (decide (i < j))) (gInt fLt) := op2_int (fun i j d v H Q e hv q => by cases e; cases hv; exact ⟨i, j, rfl, rfl, q⟩) fun i j d e => by cases e; exact ⟨_, rfl⟩
theorem o_le : Op2 K (rI0 fun i j => .bl (decide (i ≤ j))) (gInt fLe) := op2_int (fun i j d v H Q e hv q => by cases e; cases hv; exact ⟨i, j, rfl, rfl, q⟩) fun i j d e => by cases e; exact ⟨_, rfl⟩
theorem o_gt : Op2 K (rI0 fun i j => .bl (decide (j < i))) (gInt fGt) := op2_int (fun i j d v H Q e hv q => by cases e; cases hv; exact ⟨i, j, rfl, rfl, q⟩) fun i j d e => by cases e; exact ⟨_, rfl⟩
theorem o_ge : Op2 K (rI0 fun i j => .bl (decide (j ≤ i))) (gInt fGe) := op2_int (fun i j d v H Q e hv q => by cases e; cases hv; exact ⟨i, j, rfl, rfl, q⟩) fun i j d e => by cases e; exact ⟨_, rfl⟩

end

/-! ### +: numbers, texts, lists, tuples -/
def gAdd : D → D → Option Z
  | .int i, .int j => some (.d (.int (i + j)))
  | .str x, .str y => if x.length + y.length ≤ sizeLine then some (.d (.str (x ++ y))) else none
  | .lst l, .lst m => if l.length + m.length ≤ sizeLine then some (.n (.lst (l ++ m))) else none
  | .tup l, .tup m => if l.length + m.length ≤ sizeLine then some (.t (l ++ m)) else none
  | _, _ => none
theorem RpA.app {K : PySem.W.Frag} {G : Hp} : ∀ {xs ys : List V} {ds es : List D}, RpA K G xs ds → RpA K G ys es → RpA K G (xs ++ ys) (ds ++ es)
  | _, _, _, _, .nil, q => q
  | _, _, _, _, .cons h r, q => .cons h (r.app q)
/-- t + u -/
def rCatP (K : PySem.W.Frag) : R2 := fun x y H Q => ∃ a b xs ys, x = .ref a ∧ y = .ref b ∧ SqT K H a xs ∧ SqT K H b ys ∧ xs.length + ys.length ≤ sizeLine ∧
  (xs = [] → Q (.ref b) H) ∧ (xs ≠ [] → ys = [] → Q (.ref a) H) ∧ (xs ≠ [] → ys ≠ [] → NewT H (xs ++ ys) Q)
theorem op_catP {X : Cx} : OpR X (binaryOp .Add) (rCatP X.K) := by
  intro pins s σ H x y v u Q I rx ry h
  obtain ⟨a, b, xs, ys, rfl, rfl, ha, hb, hz, q0, q1, q2⟩ := h
  cases rx
  cases ry
  obtain ⟨its, r1, p1, _⟩ := I.tuple ha
  obtain ⟨its2, r2, p2, _⟩ := I.tuple hb
  by_cases hx : xs = []
  · subst hx
    cases r1
    exact cat_tup0 p1 p2 ⟨.ref b, H, I, rfl, q0 rfl⟩
  · refine HT.cat_tup p1 p2 (fun z => hx (r1.nil_iff.mp z)) (fun z => ⟨.ref a, H, I, rfl, q1 hx (r2.nil_iff.mp z)⟩) (fun z => ?_) (by rw [← r1.length, ← r2.length]; exact hz)
    exact laidT I (r1.append r2) (by rw [List.length_append]; exact hz) (q2 hx fun w => z (r2.nil_iff.mpr w))
/-- + of two numbers, texts, lists, tuples -/
def rAdd3 (K : PySem.W.Frag) : R2 := fun x y H Q => (((rI0 fun i j => .int (i + j)) x y H Q ∨ (∃ i j, x = .str i ∧ y = .str j ∧ i.length + j.length ≤ sizeLine ∧ Q (.str (i ++ j)) H)) ∨ rCat x y H Q) ∨ rCatP K x y H Q
theorem op_add3 {X : Cx} : OpR X (binaryOp .Add) (rAdd3 X.K) := ((op_add.or op_add_str).or op_cat).or op_catP
theorem o_add3 {K : PySem.W.Frag} : Op2 K (rAdd3 K) gAdd := fun H G x y d e z Q xx rx ry hz k => by
  unfold gAdd at hz
  split at hz
  · cases hz
    obtain rfl := rx.int
    obtain rfl := ry.int
    exact .inl (.inl (.inl ⟨_, _, rfl, rfl, k _ H ⟨rfl, .int _⟩⟩))
  · split at hz
    · rename_i hl
      cases hz
      obtain rfl := rx.str
      obtain rfl := ry.str
      exact .inl (.inl (.inr ⟨_, _, rfl, rfl, hl, k _ H ⟨rfl, .str _⟩⟩))
    · cases hz
  · split at hz
    · rename_i hle
      cases hz
      obtain ⟨a, xs, rfl, h1, r1⟩ := rx.lst xx
      obtain ⟨c, ys, rfl, h2, r2⟩ := ry.lst xx
      exact .inl (.inr ⟨a, c, xs, ys, rfl, rfl, h1, h2, by rw [r1.len, r2.len]; exact hle, fun p hp => k _ _ ⟨p, _, rfl, hp, rfl, .lst (r1.app r2)⟩⟩)
    · cases hz
  · split at hz
    · rename_i l m hle
      cases hz
      obtain ⟨a, xs, rfl, h1, r1, p1⟩ := rx.tup xx
      obtain ⟨c, ys, rfl, h2, r2, p2⟩ := ry.tup xx
      refine .inr ⟨a, c, xs, ys, rfl, rfl, h1.1, h2.1, by rw [r1.len, r2.len]; exact hle, fun e => k _ _ (.inr ⟨rfl, ?_⟩), fun _ e => k _ _ (.inr ⟨rfl, ?_⟩), fun _ _ p o ho hp => k _ _ (.inl ⟨p, o, _, rfl, ho, hp, rfl, r1.app r2⟩)⟩
      · subst e
        cases r1
        exact p2
      · subst e
        cases r2
        rw [List.append_nil]
        exact p1
    · cases hz
  · cases hz

/-! ### items -/
def gIx : D → D → Option Z
  | .lst l, .int i => (atI l i).map .d
  | .tup l, .int i => (atI l i).map .d
  | .str x, .int i => if x.length ≤ sizeLine then (atI x.cps.toList i).map fun c => .d (.str ⟨#[c]⟩) else none
  | _, _ => none
section
variable {K : PySem.W.Frag}
theorem atI_rp {G : Hp} {xs : List V} {ds : List D} {i : Int} {d : D} (r : RpA K G xs ds) (h : atI ds i = some d) : ∃ v, atI xs i = some v ∧ Rp K G v d := by
  unfold atI at h ⊢
  rw [r.len]
  cases q : ixN ds.length i with
  | none => rw [q] at h; cases h
  | some j =>
    rw [q] at h
    exact r.at h
theorem o_ix : Op2 K (rIx K) gIx := fun H G x y d e z Q xx rx ry hz k => by
  unfold gIx at hz
  split at hz
  · rename_i l i
    obtain rfl := ry.int
    obtain ⟨a, xs, rfl, h1, r1⟩ := rx.lst xx
    cases q : atI l i with
    | none => rw [q] at hz; cases hz
    | some d =>
      rw [q] at hz
      cases hz
      obtain ⟨v, e1, e2⟩ := atI_rp r1 q
      exact .inl ⟨a, xs, i, v, rfl, rfl, SqL.of h1, e1, k v H ⟨rfl, e2⟩⟩
  · rename_i l i
    obtain rfl := ry.int
    obtain ⟨a, xs, rfl, ⟨h1, _⟩, r1, _⟩ := rx.tup xx
    cases q : atI l i with
    | none => rw [q] at hz; cases hz
    | some d =>
      rw [q] at hz
      cases hz
      obtain ⟨v, e1, e2⟩ := atI_rp r1 q
      exact .inr (.inl ⟨a, xs, i, v, rfl, rfl, h1, e1, k v H ⟨rfl, e2⟩⟩)
  · rename_i x i
    obtain rfl := ry.int
    obtain rfl := rx.str
    split at hz
    · rename_i hl
      cases q : atI x.cps.toList i with
      | none => rw [q] at hz; cases hz
      | some c =>
        rw [q] at hz
        cases hz
        exact .inr (.inr ⟨x, i, c, rfl, rfl, hl, q, k _ H ⟨rfl, .str _⟩⟩)
    · cases hz
  · cases hz
end

/-! ### slices -/
def wNoP : Rho → (Option Int → Rho → Prop) → Prop := fun ρ Q => Q none ρ
def wPart (ta : TD) : Rho → (Option Int → Rho → Prop) → Prop := fun ρ Q => ta ρ fun r ρ1 => lk (con ρ1 r) fun d => match d with
  | .int i => Q (some i) ρ1
  | _ => False
def liftP (K : PySem.W.Frag) (b : Bas) (td : Rho → (Option Int → Rho → Prop) → Prop) : TO := fun σ H Q => ∃ G ρ QD, Rel K b σ H G ρ ∧ td ρ QD ∧ ∀ o H' G' ρ', Rel K b σ H' G' ρ' → Fm σ ρ H G ρ' H' G' → QD o ρ' → Q o H'
def wSl (g : D → Option Int → Option Int → Option Z) (ta : TD) (tl th : Rho → (Option Int → Rho → Prop) → Prop) : TD := fun ρ Q => ta ρ fun r ρ1 => tl ρ1 fun lo ρ2 => th ρ2 fun hi ρ3 => lk (con ρ3 r) fun d => lk (g d lo hi) fun z => Q z.r ρ3
def SlD (K : PySem.W.Frag) (r : V → Option Int → Option Int → Hp → VK → Prop) (g : D → Option Int → Option Int → Option Z) : Prop := ∀ (H G : Hp) (x : V) (d : D) (lo hi : Option Int) (z : Z) (Q : VK), Ex G H → Rc K H G x d → g d lo hi = some z → (∀ v H', Out K H G v H' z → Q v H') → r x lo hi H Q
section
variable {X : Cx} {b : Bas} {e : Expr} {lo hi : Option Expr} {ta : TD} {tl th : Rho → (Option Int → Rho → Prop) → Prop} {pos p2 : Pos}
theorem po_weak {e : Option Expr} {t t' : TO} (h : PO X e t) (w : ∀ σ H Q, t' σ H Q → t σ H Q) : PO X e t' := ⟨fun pins s σ H Q I q => h.run pins s σ H Q I (w σ H Q q)⟩
theorem p_none : PO X none (liftP X.K b wNoP) := po_weak po_none fun σ H Q q => by
  obtain ⟨G, ρ, QD, w, q, k⟩ := q
  exact k none H G ρ w (Fm.refl σ ρ H G) q
theorem p_some (h : PD X b e ta) : PO X (some e) (liftP X.K b (wPart ta)) := po_weak (po_some h) fun σ H Q q => by
  obtain ⟨G, ρ, QD, w, q, k⟩ := q
  refine ⟨G, ρ, _, w, q, fun v H1 G1 r ρ1 w1 m1 q1 z => ?_⟩
  obtain ⟨d, e1, z⟩ := lk_get z
  split at z
  · rename_i i
    exact ⟨i, (q1.rc w1 e1).int, k _ H1 G1 ρ1 w1 m1 z⟩
  · exact z.elim
theorem d_sl {r : V → Option Int → Option Int → Hp → VK → Prop} {g : D → Option Int → Option Int → Option Z} (hr : SlR X r) (hg : SlD X.K r g) (he : PD X b e ta) (hl : PO X lo (liftP X.K b tl)) (hu : PO X hi (liftP X.K b th)) : PD X b (.Subscript e (.Slice lo hi none p2) pos) (wSl g ta tl th) :=
  pe_weak (pe_slice hr he hl hu) fun σ H Q q => by
    obtain ⟨G, ρ, QD, w, q, k⟩ := q
    refine ⟨G, ρ, _, w, q, fun v H1 G1 r ρ1 w1 m1 q1 z => ⟨G1, ρ1, _, w1, z, fun lo H2 G2 ρ2 w2 m2 z => ⟨G2, ρ2, _, w2, z, fun hi H3 G3 ρ3 w3 m3 z => ?_⟩⟩⟩
    obtain ⟨d, e1, z⟩ := lk_get z
    obtain ⟨y, e2, z⟩ := lk_get z
    refine hg H3 G3 v d lo hi y Q w3.sub ((q1.stay (m2.trans m3)).rc w3 e1) e2 fun v' H' o => ?_
    obtain ⟨G', w', m', q'⟩ := o.go w3
    exact k v' H' G' _ ρ3 w' (((m1.trans m2).trans m3).trans m') (q'.back ((m1.trans m2).trans m3).dm) z
end
def cutD (l : List D) (lo hi : Option Int) : List D := (l.drop (HT.sIx l.length 0 lo)).take (HT.sIx l.length l.length hi - HT.sIx l.length 0 lo)
def gSlL : D → Option Int → Option Int → Option Z
  | .lst l, lo, hi => some (.n (.lst (cutD l lo hi)))
  | .fzl l, lo, hi => some (.n (.lst (cutD l lo hi)))
  | _, _, _ => none
section
variable {K : PySem.W.Frag}
theorem RpA.take {G : Hp} : ∀ {xs : List V} {ds : List D} (n : Nat), RpA K G xs ds → RpA K G (xs.take n) (ds.take n)
  | _, _, 0, _ => .nil
  | _, _, _ + 1, .nil => .nil
  | _, _, n + 1, .cons h r => .cons h (r.take n)
theorem RpA.drop {G : Hp} : ∀ {xs : List V} {ds : List D} (n : Nat), RpA K G xs ds → RpA K G (xs.drop n) (ds.drop n)
  | _, _, 0, r => r
  | _, _, _ + 1, .nil => .nil
  | _, _, n + 1, .cons _ r => r.drop n
theorem cut_rp {G : Hp} {xs : List V} {ds : List D} (r : RpA K G xs ds) (lo hi : Option Int) : RpA K G (cutV xs lo hi) (cutD ds lo hi) := by
  unfold cutV cutD
  rw [r.len]
  exact (r.drop _).take _
theorem o_slL : SlD K (rSlL K) gSlL := fun H G x d lo hi z Q xx rx hz k => by
  unfold gSlL at hz
  split at hz
  · cases hz
    obtain ⟨a, xs, rfl, h1, r1⟩ := rx.lst xx
    exact ⟨a, xs, rfl, SqL.of h1, fun p hp => k _ _ ⟨p, _, rfl, hp, rfl, .lst (cut_rp r1 lo hi)⟩⟩
  · cases hz
    obtain ⟨a, xs, rfl, h1, r1⟩ := rx.fzl xx
    exact ⟨a, xs, rfl, h1, fun p hp => k _ _ ⟨p, _, rfl, hp, rfl, .lst (cut_rp r1 lo hi)⟩⟩
  · cases hz
end

/-! ### == and != of what needs no own comparison -/
-- data that the deep comparison is told of
mutual
def pyD : D → Option PyData
  | .non => some .none
  | .bl c => some (.bool c)
  | .int i => some (.int i)
  | .str x => some (.str x)
  | .lst l => (pyDs l).map .list
  | .tup l => (pyDs l).map .tuple
  | .dct _ => none
  | .ins _ _ => none
  | .fzl _ => none
  | .wt _ => none
  | .ty _ => none
  | .cls _ => none
def pyDs : List D → Option (List PyData)
  | [] => some []
  | d :: ds => (pyD d).bind fun p => (pyDs ds).map fun ps => p :: ps
end
section
variable {K : PySem.W.Frag} {H G : Hp}
mutual
theorem pyD_dp (e : Ex G H) : ∀ {v : V} {d : D} {p : PyData}, Rp K G v d → pyD d = some p → Dp K H v p
  | _, _, p, .non, h => by cases h; exact .non
  | _, _, p, .bl c, h => by cases h; exact .bl c
  | _, _, p, .int i, h => by cases h; exact .int i
  | _, _, p, .str x, h => by cases h; exact .str x
  | _, _, p, .dct _ _, h => by unfold pyD at h; cases h
  | _, _, p, .ins _ _, h => by unfold pyD at h; cases h
  | _, _, p, .fzl _ _, h => by unfold pyD at h; cases h
  | _, _, p, .lst (ds := ds) h1 h2, h => by
    unfold pyD at h
    cases q : pyDs ds with
    | none => rw [q] at h; cases h
    | some ps => rw [q] at h; cases h; exact .lst (SqL.of (e _ _ h1)) (pyDs_dp e h2 q)
  | _, _, p, .wt _ _, h => by unfold pyD at h; cases h
  | _, _, p, .ty _, h => by unfold pyD at h; cases h
  | _, _, p, .cls _, h => by unfold pyD at h; cases h
  | _, _, p, .tup (ds := ds) h1 h2, h => by
    unfold pyD at h
    cases q : pyDs ds with
    | none => rw [q] at h; cases h
    | some ps => rw [q] at h; cases h; exact .tup (e.sqt h1.1) (pyDs_dp e h2 q)
theorem pyDs_dp (e : Ex G H) : ∀ {v : List V} {d : List D} {p : List PyData}, RpA K G v d → pyDs d = some p → DpAll K H v p
  | _, _, p, .nil, h => by cases h; exact .nil
  | _, _, p, .cons (d := d) (ds := ds) h1 h2, h => by
    unfold pyDs at h
    cases q : pyD d with
    | none => rw [q] at h; cases h
    | some x =>
      rw [q] at h
      have h' : Option.map (fun ps => x :: ps) (pyDs ds) = some p := h
      cases q2 : pyDs ds with
      | none => rw [q2] at h'; cases h'
      | some ps => rw [q2] at h'; cases h'; exact .cons (pyD_dp e h1 q) (pyDs_dp e h2 q2)
end
theorem rc_dp {v : V} {d : D} {p : PyData} (e : Ex G H) (r : Rc K H G v d) (h : pyD d = some p) : Dp K H v p := by
  rcases r with r | ⟨a, hh, o, rfl, h1, r, rfl⟩
  · exact pyD_dp e r h
  · cases r with
    | lst r =>
      rename_i ds
      have h' : (pyDs ds).map PyData.list = some p := by unfold Own.d pyD at h; exact h
      cases q : pyDs ds with
      | none => rw [q] at h'; cases h'
      | some ps => rw [q] at h'; cases h'; exact .lst (SqL.of h1) (pyDs_dp e r q)
    | dct r => unfold Own.d pyD at h; cases h
    | ins r => unfold Own.d pyD at h; cases h
end
def gEq (neg : Bool) (d e : D) : Option Z := (pyD d).bind fun p => (pyD e).bind fun q => if SeqAt.shaped p = true ∧ SeqAt.shaped q = true then some (.d (.bl (if neg then !PyData.eqv p q else PyData.eqv p q))) else none
section
variable {K : PySem.W.Frag}
theorem gEq_get {neg : Bool} {d e : D} {z : Z} (h : gEq neg d e = some z) : ∃ p q, pyD d = some p ∧ pyD e = some q ∧ SeqAt.shaped p = true ∧ SeqAt.shaped q = true ∧ z = .d (.bl (if neg then !PyData.eqv p q else PyData.eqv p q)) := by
  unfold gEq at h
  cases e1 : pyD d with
  | none => rw [e1] at h; cases h
  | some p =>
    rw [e1] at h
    have h : ((pyD e).bind fun q => if SeqAt.shaped p = true ∧ SeqAt.shaped q = true then some (.d (.bl (if neg then !PyData.eqv p q else PyData.eqv p q))) else none) = some z := h
    cases e2 : pyD e with
    | none => rw [e2] at h; cases h
    | some q =>
      rw [e2] at h
      have h : (if SeqAt.shaped p = true ∧ SeqAt.shaped q = true then some (Z.d (.bl (if neg then !PyData.eqv p q else PyData.eqv p q))) else none) = some z := h
      split at h
      · rename_i hs
        cases h
        exact ⟨p, q, rfl, rfl, hs.1, hs.2, rfl⟩
      · cases h
theorem o_eq : Op2 K (rEqD K) (gEq false) := fun H G x y d e z Q xx rx ry hz k => by
  obtain ⟨p, q, h1, h2, h3, h4, rfl⟩ := gEq_get hz
  exact ⟨p, q, rc_dp xx rx h1, rc_dp xx ry h2, h3, h4, k _ H ⟨rfl, .bl _⟩⟩
theorem o_ne : Op2 K (rNeD K) (gEq true) := fun H G x y d e z Q xx rx ry hz k => by
  obtain ⟨p, q, h1, h2, h3, h4, rfl⟩ := gEq_get hz
  exact ⟨p, q, rc_dp xx rx h1, rc_dp xx ry h2, h3, h4, k _ H ⟨rfl, .bl _⟩⟩
end

/-! ### built-in functions -/
def gAbs : List D → Option Z
  | [.int i] => some (.d (.int (if i < 0 then -i else i)))
  | _ => none
def gIntOf : List D → Option Z
  | [.int i] => some (.d (.int i))
  | [.bl c] => some (.d (.int (if c then 1 else 0)))
  | _ => none
def gLen : List D → Option Z
  | [.str x] => if x.length ≤ sizeLine then some (.d (.int x.length)) else none
  | [.lst l] => some (.d (.int l.length))
  | [.fzl l] => some (.d (.int l.length))
  | [.tup l] => some (.d (.int l.length))
  | _ => none
section
variable {K : PySem.W.Frag}
theorem pr1 {H G : Hp} {xs : List V} {d : D} (h : Paired (Rc K H G) xs [d]) : ∃ x, xs = [x] ∧ Rc K H G x d := by
  cases h with | cons h1 h2 => cases h2; exact ⟨_, rfl, h1⟩
theorem pr2 {H G : Hp} {xs : List V} {d e : D} (h : Paired (Rc K H G) xs [d, e]) : ∃ x y, xs = [x, y] ∧ Rc K H G x d ∧ Rc K H G y e := by
  cases h with | cons h1 h2 => cases h2 with | cons h2 h3 => cases h3; exact ⟨_, _, rfl, h1, h2⟩
theorem b_abs : FnB K (fun xs H Q => ∃ i, xs = [V.int i] ∧ Q (.int (if i < 0 then -i else i)) H) gAbs := fun H G xs ds z Q xx r hz k => by
  unfold gAbs at hz
  split at hz
  · cases hz
    obtain ⟨x, rfl, r'⟩ := pr1 r
    obtain rfl := r'.int
    exact ⟨_, rfl, k _ H ⟨rfl, .int _⟩⟩
  · cases hz
theorem b_int : FnB K (fun xs H Q => (∃ i, xs = [V.int i] ∧ Q (.int i) H) ∨ ∃ k, xs = [V.bl k] ∧ Q (.int (if k then 1 else 0)) H) gIntOf := fun H G xs ds z Q xx r hz k => by
  unfold gIntOf at hz
  split at hz
  · cases hz
    obtain ⟨x, rfl, r'⟩ := pr1 r
    obtain rfl := r'.int
    exact .inl ⟨_, rfl, k _ H ⟨rfl, .int _⟩⟩
  · cases hz
    obtain ⟨x, rfl, r'⟩ := pr1 r
    obtain rfl := r'.bl
    exact .inr ⟨_, rfl, k _ H ⟨rfl, .int _⟩⟩
  · cases hz
theorem b_len : FnB K (fun xs H Q => ∃ x n, xs = [x] ∧ LenV K x H n ∧ Q (.int n) H) gLen := fun H G xs ds z Q xx r hz k => by
  unfold gLen at hz
  split at hz
  · rename_i x
    split at hz
    · rename_i hl
      cases hz
      obtain ⟨v, rfl, r'⟩ := pr1 r
      obtain rfl := r'.str
      exact ⟨_, _, rfl, ⟨hl, rfl⟩, k _ H ⟨rfl, .int _⟩⟩
    · cases hz
  · cases hz
    obtain ⟨v, rfl, r'⟩ := pr1 r
    obtain ⟨a, xs, rfl, h1, r1⟩ := r'.lst xx
    exact ⟨_, _, rfl, .inl ⟨xs, SqL.of h1, r1.len.symm⟩, k _ H ⟨rfl, .int _⟩⟩
  · cases hz
    obtain ⟨v, rfl, r'⟩ := pr1 r
    obtain ⟨a, xs, rfl, h1, r1⟩ := r'.fzl xx
    exact ⟨_, _, rfl, .inl ⟨xs, h1, r1.len.symm⟩, k _ H ⟨rfl, .int _⟩⟩
  · cases hz
    obtain ⟨v, rfl, r'⟩ := pr1 r
    obtain ⟨a, xs, rfl, ⟨h1, _⟩, r1, _⟩ := r'.tup xx
    exact ⟨_, _, rfl, .inr ⟨xs, h1, r1.len.symm⟩, k _ H ⟨rfl, .int _⟩⟩
  · cases hz
end
/-! ### methods of a slot's list -/
def gAppend : List D → List D → Option (List D × D)
  | l, [d] => if l.length < sizeLine then some (l ++ [d], .non) else none
  | _, _ => none
def gPop : List D → List D → Option (List D × D)
  | l, [] => (l[l.length - 1]?).map fun d => (l.dropLast, d)
  | _, _ => none
def gPopAt : List D → List D → Option (List D × D)
  | l, [.int i] => if -(2 ^ 63) ≤ i ∧ i < 2 ^ 63 then (seqIndex? i l.length).bind fun k => (l[k]?).map fun d => (l.eraseIdx k, d) else none
  | _, _ => none
section
variable {K : PySem.W.Frag}
theorem RpA.cut {G : Hp} : ∀ {xs : List V} {ds : List D}, RpA K G xs ds → RpA K G xs.dropLast ds.dropLast
  | _, _, .nil => .nil
  | _, _, .cons h .nil => .nil
  | _, _, .cons h (.cons h2 r) => .cons h (RpA.cut (.cons h2 r))
theorem RpA.erase {G : Hp} : ∀ {xs : List V} {ds : List D} (k : Nat), RpA K G xs ds → RpA K G (xs.eraseIdx k) (ds.eraseIdx k)
  | _, _, _, .nil => .nil
  | _, _, 0, .cons h r => r
  | _, _, k + 1, .cons h r => .cons h (r.erase k)
theorem m_append : MutL K rAppend gAppend := fun H G a xs ys ls ds l' z Q xx ha hg rl rd hz k => by
  unfold gAppend at hz
  split at hz
  · rename_i l d
    split at hz
    · rename_i hl
      cases hz
      cases rd with
      | cons h1 h2 =>
        cases h2
        exact ⟨a, xs, _, rfl, rfl, ha, by rw [rl.len]; exact hl, k .non _ (RpA.snoc h1 rl) .non⟩
    · cases hz
  · cases hz
theorem m_pop : MutL K rPop gPop := fun H G a xs ys ls ds l' z Q xx ha hg rl rd hz k => by
  unfold gPop at hz
  split at hz
  · cases rd
    cases q : ls[ls.length - 1]? with
    | none => rw [q] at hz; cases hz
    | some d =>
      rw [q] at hz
      cases hz
      obtain ⟨v, h1, h2⟩ := rl.at q
      rw [← rl.len] at h1
      exact ⟨a, xs, v, rfl, rfl, ha, h1, k v _ rl.cut h2⟩
  · cases hz
theorem m_popAt : MutL K rPopAt gPopAt := fun H G a xs ys ls ds l' z Q xx ha hg rl rd hz k => by
  unfold gPopAt at hz
  split at hz
  · rename_i i
    split at hz
    · rename_i hi
      cases rd with
      | cons r1 r2 =>
        cases r2
        cases r1
        cases q : seqIndex? i ls.length with
        | none => rw [q] at hz; cases hz
        | some j =>
          rw [q] at hz
          have hz : Option.map (fun d => (ls.eraseIdx j, d)) ls[j]? = some (l', z) := hz
          cases q2 : ls[j]? with
          | none => rw [q2] at hz; cases hz
          | some d =>
            rw [q2] at hz
            cases hz
            obtain ⟨v, h1, h2⟩ := rl.at q2
            exact ⟨a, xs, i, j, v, rfl, rfl, ha, hi.1, hi.2, by rw [rl.len]; exact q, h1, k v _ (rl.erase j) h2⟩
    · cases hz
  · cases hz
end
end DL

set_option Elab.async false
set_option maxRecDepth 100000
set_option maxHeartbeats 4000000
/-! DL9: how readings over data are run. -/
namespace DL
open PySem PySem.Spec PyProof.Rows L2
theorem lk_ite {α : Type} {c : Prop} [Decidable c] {a : α} {k : α → Prop} : lk (if c then some a else none) k = (c ∧ k a) := by
  by_cases h : c
  · rw [if_pos h, lk_some]; exact propext ⟨fun q => ⟨h, q⟩, fun q => q.2⟩
  · rw [if_neg h]; exact propext ⟨fun q => q.elim, fun q => h q.1⟩
theorem lk_map {α β : Type} {f : α → β} {x : Option α} {k : β → Prop} : lk (x.map f) k = lk x fun a => k (f a) := by cases x <;> rfl
theorem lk_bind {α β : Type} {f : α → Option β} {x : Option α} {k : β → Prop} : lk (x.bind f) k = lk x fun a => lk (f a) k := by cases x <;> rfl
theorem gInt_eq {f : Int → Int → Option D} {i j : Int} : gInt f (.int i) (.int j) = (f i j).map .d := rfl
theorem log2_of {a n : Nat} (h : a < 2 ^ n) (hn : 0 < n) : a.log2 < n := by
  by_cases h0 : a = 0
  · subst h0
    have : Nat.log2 0 = 0 := by decide
    omega
  · exact (Nat.log2_lt h0).mpr h
theorem mul_ok {i j : Int} (a b : Nat) (hi : i.natAbs < 2 ^ a) (hj : j.natAbs < 2 ^ b) (h1 : 0 < a) (h2 : 0 < b) (h : a + b < 1000000) : i.natAbs.log2 + j.natAbs.log2 < 1000000 := by
  have h3 := log2_of hi h1
  have h4 := log2_of hj h2
  omega
theorem div_ok {j : Int} (b : Nat) (h0 : 0 < j) (hj : j.natAbs < 2 ^ b) (h1 : 0 < b) (h : b ≤ 9000) : 0 < j ∧ j.natAbs.log2 < 9000 := ⟨h0, by have := log2_of hj h1; omega⟩
end DL

set_option Elab.async false
set_option maxRecDepth 100000
set_option maxHeartbeats 4000000
/-! DL10: tuples times numbers, slices, extend, list(), tuple(), isinstance, is. -/
namespace DL
open PySem PySem.Spec PyProof.Rows L2

/-! ### tuple * int, the other cases -/
theorem tuple_mul1 (l : Addr) (items : Array Value) (n : Nat) (dd : Option Addr) (sl : Array (Option Value)) (x : Int) (u : Tok) (c0 : (decide (x < -(2 ^ 63)) || decide (x ≥ 2 ^ 63)) = false) (c1 : (items.isEmpty || x == 1) = true) :
    Meets (Builtin.«tuple.__mul__» ⟨[.ref l, .int x u], []⟩) (fun _ R s => s.heap.get? l = some { cls := .type "tuple", dict := dd, data := .seq items n, slots := sl } ∧ R (.ok (.ret (Value.ref l))) s) :=
  .of_wp fun prog w A R s h => by
    obtain ⟨hp, g, d, tk, os⟩ := s
    obtain ⟨hl, h⟩ := h
    have f1 := AutoSeq1.idx_int
    wp_walk using wpAny_loadPart' hl
    repeat (first
      | (refine wpAny_ite_false (decide_eq_false (by rw [c0]; exact Bool.false_ne_true)) ?_; wp_walk using wpAny_loadPart' hl)
      | (refine wpAny_ite_true (decide_eq_true c1) ?_; wp_walk using wpAny_loadPart' hl))
    exact ⟨_, rfl, h⟩
theorem tuple_mul0 (l : Addr) (items : Array Value) (n : Nat) (dd : Option Addr) (sl : Array (Option Value)) (x : Int) (u : Tok) (c0 : (decide (x < -(2 ^ 63)) || decide (x ≥ 2 ^ 63)) = false) (c1 : (items.isEmpty || x == 1) = false) (c2 : (decide (x ≤ 0) || items.isEmpty) = true) :
    Meets (Builtin.«tuple.__mul__» ⟨[.ref l, .int x u], []⟩) (fun _ R s => s.heap.get? l = some { cls := .type "tuple", dict := dd, data := .seq items n, slots := sl } ∧ R (.ok (.ret (Value.ref s.heap.objs.size))) { s with heap := s.heap.push { cls := Value.type "tuple", data := Data.seq #[] }, toks := s.toks }) :=
  .of_wp fun prog w A R s h => by
    obtain ⟨hp, g, d, tk, os⟩ := s
    obtain ⟨hl, h⟩ := h
    have f1 := AutoSeq1.idx_int
    wp_walk using wpAny_loadPart' hl
    repeat (first
      | (refine wpAny_ite_false (decide_eq_false (by rw [c0]; exact Bool.false_ne_true)) ?_; wp_walk using wpAny_loadPart' hl)
      | (refine wpAny_ite_false (decide_eq_false (by rw [c1]; exact Bool.false_ne_true)) ?_; wp_walk using wpAny_loadPart' hl)
      | (refine wpAny_ite_true (decide_eq_true c2) ?_; wp_walk using wpAny_loadPart' hl))
    exact ⟨_, rfl, h⟩
def rRepT1 (K : PySem.W.Frag) : R2 := fun x y H Q => ∃ l k xs, x = .ref l ∧ y = .int k ∧ SqT K H l xs ∧ -(2 ^ 63) ≤ k ∧ k < 2 ^ 63 ∧ (xs = [] ∨ k = 1) ∧ Q (.ref l) H
def rRepT0 (K : PySem.W.Frag) : R2 := fun x y H Q => ∃ l k xs, x = .ref l ∧ y = .int k ∧ SqT K H l xs ∧ -(2 ^ 63) ≤ k ∧ k ≤ 0 ∧ xs ≠ [] ∧ NewT H [] Q
section
variable {X : Cx}
theorem op_repT1 : OpR X (binaryOp .Mult) (rRepT1 X.K) := by
  intro pins s σ H x y v u Q I rx ry h
  obtain ⟨l, k, xs, rfl, rfl, hT, h1, h2, hc', q⟩ := h
  cases rx
  obtain ⟨t, rfl⟩ := ry
  obtain ⟨its, r, ⟨⟨cls, dd, data, sl⟩, ho, hc, n, hd⟩, hs⟩ := I.tuple hT
  simp only at hc hd
  subst hc hd
  have c0 : (decide (k < -(2 ^ 63)) || decide (k ≥ 2 ^ 63)) = false := by
    rw [decide_eq_false (by omega), decide_eq_false (by omega)] <;> rfl
  have c1 : (its.toArray.isEmpty || k == 1) = true := by
    rcases hc' with rfl | rfl
    · cases r; rfl
    · simp
  exact wpAny_binaryOp_repeat_ref (T := "tuple") (U := "int") (by decide) ⟨_, ho, rfl⟩ (fun s' => typeIs_int s' k t) noFill_tuple_mul F.fills_int_mul F.slot_int_rmul repeat_tuple F.slot_int_index.lookup
    (call_meets F.slot_int_rmul (typeIs_int s k t) F.entry_int_rmul (F.args_int_rmul_2 _ _) (int_rmul_tuple k t l its.toArray n dd sl)
      ⟨ho, rfl, ⟨_, ho, rfl⟩, call_meets F.slot_tuple_mul ⟨_, ho, rfl⟩ F.entry_tuple_mul (F.args_tuple_mul_2 _ _) (tuple_mul1 l its.toArray n dd sl k t c0 c1) ⟨ho, .ref l, H, I, rfl, q⟩⟩)
theorem op_repT0 : OpR X (binaryOp .Mult) (rRepT0 X.K) := by
  intro pins s σ H x y v u Q I rx ry h
  obtain ⟨l, k, xs, rfl, rfl, hT, h1, h2, hne, q⟩ := h
  cases rx
  obtain ⟨t, rfl⟩ := ry
  obtain ⟨its, r, ⟨⟨cls, dd, data, sl⟩, ho, hc, n, hd⟩, hs⟩ := I.tuple hT
  simp only at hc hd
  subst hc hd
  have c0 : (decide (k < -(2 ^ 63)) || decide (k ≥ 2 ^ 63)) = false := by
    rw [decide_eq_false (by omega), decide_eq_false (by omega)] <;> rfl
  have hi : its.toArray.isEmpty = false := by
    cases r with
    | nil => exact absurd rfl hne
    | cons a b => rfl
  have c1 : (its.toArray.isEmpty || k == 1) = false := by
    rw [hi, Bool.false_or]
    exact beq_eq_false_iff_ne.mpr (by omega)
  have c2 : (decide (k ≤ 0) || its.toArray.isEmpty) = true := by
    rw [decide_eq_true h2]; rfl
  refine wpAny_binaryOp_repeat_ref (T := "tuple") (U := "int") (by decide) ⟨_, ho, rfl⟩ (fun s' => typeIs_int s' k t) noFill_tuple_mul F.fills_int_mul F.slot_int_rmul repeat_tuple F.slot_int_index.lookup
    (call_meets F.slot_int_rmul (typeIs_int s k t) F.entry_int_rmul (F.args_int_rmul_2 _ _) (int_rmul_tuple k t l its.toArray n dd sl)
      ⟨ho, rfl, ⟨_, ho, rfl⟩, call_meets F.slot_tuple_mul ⟨_, ho, rfl⟩ F.entry_tuple_mul (F.args_tuple_mul_2 _ _) (tuple_mul0 l its.toArray n dd sl k t c0 c1 c2) ⟨ho, ?_⟩⟩)
  exact laidT I .nil (Nat.zero_le _) q
def rRepP (K : PySem.W.Frag) : R2 := fun x y H Q => ∃ l k xs, x = .ref l ∧ y = .int k ∧ SqT K H l xs ∧ xs ≠ [] ∧ 2 ≤ k ∧ k ≤ 1000 ∧ xs.length ≤ 1000 ∧ NewT H (List.replicate k.toNat xs).flatten Q
theorem op_repP : OpR X (binaryOp .Mult) (rRepP X.K) := by
  intro pins s σ H x y v u Q I rx ry h
  obtain ⟨l, k, xs, rfl, rfl, hT, hne, h1, h2, hz, q⟩ := h
  cases rx
  obtain ⟨t, rfl⟩ := ry
  obtain ⟨its, r, ⟨⟨cls, dd, data, sl⟩, ho, hc, n, hd⟩, hs⟩ := I.tuple hT
  simp only at hc hd
  subst hc hd
  have hle : its.length = xs.length := r.length.symm
  have hn : its ≠ [] := fun e => hne (by
    rw [e] at hle
    exact List.eq_nil_of_length_eq_zero hle.symm)
  have hi : its.toArray.isEmpty = false := by
    cases its with
    | nil => exact absurd rfl hn
    | cons a b => rfl
  have hsz0 : its.toArray.size = xs.length := by rw [List.size_toArray, hle]
  have hm : ((its.toArray.size : Nat) : Int) * k ≤ 1000000 := by
    rw [hsz0]
    have a1 : ((xs.length : Nat) : Int) * k ≤ 1000 * k := Int.mul_le_mul_of_nonneg_right (by omega) (by omega)
    omega
  have flen : (List.replicate k.toNat xs).flatten.length ≤ sizeLine := by
    rw [PyProof.Rows.lm_len_rep_flat, sizeLine_eq]
    have a1 : k.toNat * xs.length ≤ 1000 * 1000 := Nat.mul_le_mul (by omega) hz
    omega
  have c0 : (decide (k < -(2 ^ 63)) || decide (k ≥ 2 ^ 63)) = false := by
    rw [decide_eq_false (by omega), decide_eq_false (by omega)] <;> rfl
  have c1 : (its.toArray.isEmpty || k == 1) = false := by
    rw [hi, Bool.false_or]
    exact beq_eq_false_iff_ne.mpr (by omega)
  have c2 : (decide (k ≤ 0) || its.toArray.isEmpty) = false := by
    rw [hi, Bool.or_false]
    exact decide_eq_false (by omega)
  have c4 : Builtin.Tuple.tupleTooMany (((its.toArray.size : Nat) : Int) * k) = false := by
    unfold Builtin.Tuple.tupleTooMany
    rw [sizeLine_eq]
    exact decide_eq_false (by omega)
  have rr := r.rep k.toNat
  refine wpAny_binaryOp_repeat_ref (T := "tuple") (U := "int") (by decide) ⟨_, ho, rfl⟩ (fun s' => typeIs_int s' k t) noFill_tuple_mul F.fills_int_mul F.slot_int_rmul repeat_tuple F.slot_int_index.lookup
    (call_meets F.slot_int_rmul (typeIs_int s k t) F.entry_int_rmul (F.args_int_rmul_2 _ _) (int_rmul_tuple k t l its.toArray n dd sl)
      ⟨ho, rfl, ⟨_, ho, rfl⟩, call_meets F.slot_tuple_mul ⟨_, ho, rfl⟩ F.entry_tuple_mul (F.args_tuple_mul_2 _ _) (tuple_mulW l its.toArray n dd sl k t c0 c1 c2 (by omega) c4 (by rw [size_rep, List.size_toArray, ← rr.length]; exact flen)) ⟨ho, ?_⟩⟩)
  rw [size_rep]
  exact laidT I rr flen q
end
theorem RpA.rep {K : PySem.W.Frag} {G : Hp} {xs : List V} {ds : List D} (r : RpA K G xs ds) : ∀ n : Nat, RpA K G (List.replicate n xs).flatten (List.replicate n ds).flatten
  | 0 => .nil
  | n + 1 => by
    rw [List.replicate_succ, List.replicate_succ, List.flatten_cons, List.flatten_cons]
    exact r.app (r.rep n)
def gMul : D → D → Option Z
  | .int i, .int j => (fMul i j).map .d
  | .lst l, .int k => if -(2 ^ 63) ≤ k ∧ k < 2 ^ 63 ∧ l.length * k.toNat ≤ sizeLine then some (.n (.lst (List.replicate k.toNat l).flatten)) else none
  | .tup l, .int k => if -(2 ^ 63) ≤ k ∧ k ≤ 1000 ∧ l.length ≤ 1000 then some (.t (List.replicate k.toNat l).flatten) else none
  | _, _ => none
def rMulA (K : PySem.W.Frag) : R2 := fun x y H Q => ((((rI CMulW fun i j => .int (i * j)) x y H Q ∨ rRep x y H Q) ∨ rRepP K x y H Q) ∨ rRepT1 K x y H Q) ∨ rRepT0 K x y H Q
theorem op_mulA {X : Cx} : OpR X (binaryOp .Mult) (rMulA X.K) := (((op_mulW.or op_rep).or op_repP).or op_repT1).or op_repT0
theorem o_mulA {K : PySem.W.Frag} : Op2 K (rMulA K) gMul := fun H G x y d e z Q xx rx ry hz k => by
  unfold gMul at hz
  split at hz
  · rename_i i j
    exact .inl (.inl (.inl (.inl (o_mul H G x y _ _ z Q xx rx ry hz k))))
  · split at hz
    · rename_i l i hle
      cases hz
      obtain ⟨a, xs, rfl, h1, r1⟩ := rx.lst xx
      obtain rfl := ry.int
      exact .inl (.inl (.inl (.inr ⟨a, i, xs, rfl, rfl, h1, hle.1, hle.2.1, by rw [r1.len]; exact hle.2.2, fun p hp => k _ _ ⟨p, _, rfl, hp, rfl, .lst (r1.rep _)⟩⟩)))
    · cases hz
  · split at hz
    · rename_i l i hle
      cases hz
      obtain ⟨a, xs, rfl, ⟨h1, _⟩, r1, p1⟩ := rx.tup xx
      obtain rfl := ry.int
      by_cases c1 : xs = []
      · refine .inl (.inr ⟨a, i, xs, rfl, rfl, h1, hle.1, by omega, .inl c1, k _ _ (.inr ⟨rfl, ?_⟩)⟩)
        subst c1
        cases r1
        have e0 : (List.replicate i.toNat ([] : List D)).flatten = [] := by simp
        rw [e0]; exact p1
      · by_cases c2 : i = 1
        · refine .inl (.inr ⟨a, i, xs, rfl, rfl, h1, hle.1, by omega, .inr c2, k _ _ (.inr ⟨rfl, ?_⟩)⟩)
          subst c2
          have e0 : (List.replicate (1 : Int).toNat l).flatten = l := by simp
          rw [e0]; exact p1
        · by_cases c3 : i ≤ 0
          · refine .inr ⟨a, i, xs, rfl, rfl, h1, hle.1, c3, c1, fun p o ho hp => k _ _ (.inl ⟨p, o, _, rfl, ho, hp, rfl, ?_⟩)⟩
            have e0 : i.toNat = 0 := by omega
            rw [e0]; exact .nil
          · exact .inl (.inl (.inr ⟨a, i, xs, rfl, rfl, h1, c1, by omega, hle.2.1, by rw [r1.len]; exact hle.2.2, fun p o ho hp => k _ _ (.inl ⟨p, o, _, rfl, ho, hp, rfl, r1.rep _⟩)⟩))
    · cases hz
  · cases hz

/-! ### slices of lists, tuples, texts -/
def gSl : D → Option Int → Option Int → Option Z
  | .lst l, lo, hi => some (.n (.lst (cutD l lo hi)))
  | .fzl l, lo, hi => some (.n (.lst (cutD l lo hi)))
  | .tup l, lo, hi => some (.t (cutD l lo hi))
  | .str x, lo, hi => if x.length ≤ sizeLine then some (.d (.str (cutS x lo hi))) else none
  | _, _, _ => none
/-- t[lo:hi]: the whole of it is t itself -/
def rSlP (K : PySem.W.Frag) : V → Option Int → Option Int → Hp → VK → Prop := fun x lo hi H Q => ∃ a xs, x = .ref a ∧ SqT K H a xs ∧
  (HT.sIx xs.length 0 lo = 0 ∧ HT.sIx xs.length xs.length hi = xs.length → Q (.ref a) H) ∧ (¬ (HT.sIx xs.length 0 lo = 0 ∧ HT.sIx xs.length xs.length hi = xs.length) → NewT H (cutV xs lo hi) Q)
theorem sl_tupP {X : Cx} : SlR X (rSlP X.K) := by
  intro pins s σ H x v vl vu lo hi sl Q I rx hs pl pu h
  obtain ⟨a, xs, rfl, hx, q1, q2⟩ := h
  cases rx
  obtain ⟨its, r, ht, hz⟩ := I.tuple hx
  have hlen : its.toArray.size = xs.length := by rw [List.size_toArray]; exact r.length.symm
  refine ⟨"tuple", _, PyProof.Rows.slot_tuple_getitem.lookup, ht.typeIs, ?_⟩
  by_cases hw : HT.sIx xs.length 0 lo = 0 ∧ HT.sIx xs.length xs.length hi = xs.length
  · exact getItem_tuple_whole ht hs pl pu (by rw [hlen]; exact hw) ⟨.ref a, H, I, rfl, q1 hw⟩
  · refine HT.getItem_tuple_cut ht hs pl pu (by rw [hlen]; exact hw) ?_ (by rw [hlen]; exact hz)
    rw [hlen]
    exact laidT I ((r.drop (HT.sIx xs.length 0 lo)).take (HT.sIx xs.length xs.length hi - HT.sIx xs.length 0 lo)) (Nat.le_trans (cutV_length xs lo hi) hz) (q2 hw)
def rSlAny (K : PySem.W.Frag) : V → Option Int → Option Int → Hp → VK → Prop := fun x lo hi H Q => (rSlL K x lo hi H Q ∨ rSlP K x lo hi H Q) ∨ rSlS x lo hi H Q
theorem sl_any {X : Cx} : SlR X (rSlAny X.K) := (sl_list.or sl_tupP).or sl_str
theorem cutD_whole {l : List D} {lo hi : Option Int} (h : HT.sIx l.length 0 lo = 0 ∧ HT.sIx l.length l.length hi = l.length) : cutD l lo hi = l := by
  unfold cutD
  rw [h.1, h.2, List.drop_zero, Nat.sub_zero, List.take_length]
theorem o_sl {K : PySem.W.Frag} : SlD K (rSlAny K) gSl := fun H G x d lo hi z Q xx rx hz k => by
  unfold gSl at hz
  split at hz
  · exact .inl (.inl (o_slL H G x _ _ _ z Q xx rx hz k))
  · exact .inl (.inl (o_slL H G x _ _ _ z Q xx rx hz k))
  · cases hz
    obtain ⟨a, xs, rfl, h1, r1, p1⟩ := rx.tup xx
    refine .inl (.inr ⟨a, xs, rfl, h1.1, fun e => k _ _ (.inr ⟨rfl, ?_⟩), fun _ p o ho hp => k _ _ (.inl ⟨p, o, _, rfl, ho, hp, rfl, cut_rp r1 _ _⟩)⟩)
    rw [r1.len] at e
    rw [cutD_whole e]; exact p1
  · split at hz
    · rename_i hl
      cases hz
      obtain rfl := rx.str
      exact .inr ⟨_, rfl, hl, k _ H ⟨rfl, .str _⟩⟩
    · cases hz
  · cases hz

/-! ### xs.extend(ys) -/
theorem list_extend_tup (l : Addr) (items : Array Value) (n : Nat) (b : Addr) (items2 : Array Value) (n2 : Nat) (dd : Option Addr) (sl : Array (Option Value)) (hs0 : ¬(!items.isEmpty && Builtin.List.listTooLong (items.size + items2.size)) = true) (hs1 : items.size ≤ sizeLine) (hs2 : items.size + items2.size ≤ sizeLine + 1) :
    Meets (Builtin.«list.extend» ⟨[.ref l, .ref b], []⟩) (fun _ R s => s.heap.get? l = some { cls := .type "list", dict := none, data := .seq items n, slots := #[] } ∧ s.heap.get? b = some { cls := .type "tuple", dict := dd, data := .seq items2 n2, slots := sl } ∧ R (.ok (.ret Value.none)) { s with heap := s.heap.update l (Obj.mapSeq fun x => x ++ items2), toks := s.toks }) :=
  .of_wp fun prog w A R s h => by
    obtain ⟨hp, g, d, tk, os⟩ := s; obtain ⟨hl, hb, h⟩ := h; have f1 := AutoSeq1.idx_int; have f2 := AutoSeq1.sub_tuple_tuple; have f3 := AutoSeq1.sub_list_list; have f4 := AutoSeq1.sub_tuple_list; have f5 := AutoSeq1.sub_list_tuple;
    have hz' : (items ++ items2).size ≤ sizeLine + 1 := by rw [Array.size_append]; exact hs2
    wp_walk using (wpAny_updateSeq hl rfl (hz := hs1) (_hz' := hz')), wpAny_loadPart' hl, wpAny_loadPart' hb; exact ⟨_, rfl, h⟩
def rExtT (K : PySem.W.Frag) : V → List V → Hp → VK → Prop := fun x vs H Q => ∃ l b xs zs, x = .ref l ∧ vs = [.ref b] ∧ H l = some (.lst xs) ∧ SqT K H b zs ∧ xs.length + zs.length ≤ sizeLine ∧ Q .non (upd H l (.lst (xs ++ zs)))
theorem mt_extT {X : Cx} : MtR X "list.extend" (rExtT X.K) := by
  intro pins s σ H x vs v us Q I rx rv h
  obtain ⟨l, b, xs, zs, rfl, rfl, hH, hB, hz, q⟩ := h
  cases rx
  obtain ⟨u, rfl, ru⟩ := rv.one
  cases ru
  obtain ⟨z, its, n, r, hl, e⟩ := I.lstM hH
  obtain ⟨its2, r2, ⟨⟨cls, dd, data, sl⟩, ho, hc, n2, hd⟩, hs⟩ := I.tuple hB
  simp only at hc hd
  subst hc hd
  have hl2 := r2.length
  have hsz : its.toArray.size + its2.toArray.size ≤ sizeLine := by rw [List.size_toArray, List.size_toArray]; omega
  have hlong : ¬ (!its.toArray.isEmpty && Builtin.List.listTooLong (its.toArray.size + its2.toArray.size)) = true := by
    rw [notLongL hsz, Bool.and_false]
    exact Bool.false_ne_true
  refine call_meets F.slot_list_extend ⟨_, e, rfl⟩ F.entry_list_extend (F.args_list_extend_2 _ _)
    (list_extend_tup l its.toArray n b its2.toArray n2 dd sl hlong (by rw [List.size_toArray]; omega) (by omega)) ⟨e, ho, ?_⟩
  refine ⟨.non, _, I.lset (its' := its ++ its2) hH e (by simp) (r.append r2) ?_, rfl, q⟩
  rw [List.length_append]
  omega
def gExtend : List D → List D → Option (List D × D)
  | l, [.tup m] => if l.length + m.length ≤ sizeLine then some (l ++ m, .non) else none
  | l, [.lst m] => if l.length + m.length ≤ sizeLine then some (l ++ m, .non) else none
  | _, _ => none
def rExtA (K : PySem.W.Frag) : V → List V → Hp → VK → Prop := fun x xs H Q => rExtend x xs H Q ∨ rExtT K x xs H Q
theorem mt_extA {X : Cx} : MtR X "list.extend" (rExtA X.K) := MtR.or (show MtR X "list.extend" rExtend from mt_extend) mt_extT
theorem m_extend {K : PySem.W.Frag} : MutL K (rExtA K) gExtend := fun H G a xs ys ls ds l' z Q xx ha hg rl rd hz k => by
  unfold gExtend at hz
  split at hz
  · rename_i l m
    split at hz
    · rename_i hl
      cases hz
      cases rd with
      | cons h1 h2 =>
        cases h2
        cases h1 with
        | tup p1 p2 => exact .inr ⟨a, _, xs, _, rfl, rfl, ha, xx.sqt p1.1, by rw [rl.len, p2.len]; exact hl, k .non _ (rl.app p2) .non⟩
    · cases hz
  · rename_i l m
    split at hz
    · rename_i hl
      cases hz
      cases rd with
      | cons h1 h2 =>
        cases h2
        cases h1 with
        | lst p1 p2 => exact .inl ⟨a, _, xs, _, rfl, rfl, ha, xx _ _ p1, by rw [rl.len, p2.len]; exact hl, k .non _ (rl.app p2) .non⟩
    · cases hz
  · cases hz

/-! ### list(x), tuple(x) -/
def gListOf : List D → Option Z
  | [.lst l] => some (.n (.lst l))
  | [.fzl l] => some (.n (.lst l))
  | [.tup l] => some (.n (.lst l))
  | _ => none
def rListOf (K : PySem.W.Frag) : List V → Hp → VK → Prop := fun xs H Q => ∃ p ys, xs = [.ref p] ∧ (SqL K H p ys ∨ SqT K H p ys) ∧ ∀ l, H l = none → Q (.ref l) (upd H l (.lst ys))
theorem b_listOf {K : PySem.W.Frag} : FnB K (rListOf K) gListOf := fun H G xs ds z Q xx r hz k => by
  unfold gListOf at hz
  split at hz
  · cases hz
    obtain ⟨v, rfl, r'⟩ := pr1 r
    obtain ⟨a, xs, rfl, h1, r1⟩ := r'.lst xx
    exact ⟨_, _, rfl, .inl (SqL.of h1), fun p hp => k _ _ ⟨p, _, rfl, hp, rfl, .lst r1⟩⟩
  · cases hz
    obtain ⟨v, rfl, r'⟩ := pr1 r
    obtain ⟨a, xs, rfl, h1, r1⟩ := r'.fzl xx
    exact ⟨_, _, rfl, .inl h1, fun p hp => k _ _ ⟨p, _, rfl, hp, rfl, .lst r1⟩⟩
  · cases hz
    obtain ⟨v, rfl, r'⟩ := pr1 r
    obtain ⟨a, xs, rfl, h1, r1, _⟩ := r'.tup xx
    exact ⟨_, _, rfl, .inr h1.1, fun p hp => k _ _ ⟨p, _, rfl, hp, rfl, .lst r1⟩⟩
  · cases hz
def rTupOf (K : PySem.W.Frag) : List V → Hp → VK → Prop := fun xs H Q => ∃ p ys, xs = [.ref p] ∧ ((SqL K H p ys ∧ NewT H ys Q) ∨ (SqT K H p ys ∧ Q (.ref p) H))
theorem call_tupP {X : Cx} : CallR X (.type "tuple") (rTupOf X.K) := by
  intro pins s σ H xs us Q I r h
  obtain ⟨p, ys, rfl, h⟩ := h
  obtain ⟨u, rfl, rx⟩ := vals1 r
  cases rx
  rcases h with ⟨hq, q⟩ | ⟨hq, q⟩
  · obtain ⟨its, r', pl, hz⟩ := I.list hq
    have hlen := r'.length
    refine call_tuple_list pl.isList (fun h' kp => ?_) (by simp only [List.size_toArray] <;> omega)
    have I1 : Inv X pins σ H { s with heap := h' } := I.kept (t' := s.toks) kp
    exact laidT I1 r' hz q
  · obtain ⟨its, r', pl, hz⟩ := I.tuple hq
    exact call_tuple_same pl ⟨.ref p, H, I, rfl, q⟩
def gTupOf : List D → Option Z
  | [.lst l] => some (.t l)
  | [.fzl l] => some (.t l)
  | [.tup l] => some (.t l)
  | _ => none
theorem b_tupOf {K : PySem.W.Frag} : FnB K (rTupOf K) gTupOf := fun H G xs ds z Q xx r hz k => by
  unfold gTupOf at hz
  split at hz
  · cases hz
    obtain ⟨v, rfl, r'⟩ := pr1 r
    obtain ⟨a, xs, rfl, h1, r1⟩ := r'.lst xx
    exact ⟨_, _, rfl, .inl ⟨SqL.of h1, fun p o ho hp => k _ _ (.inl ⟨p, o, _, rfl, ho, hp, rfl, r1⟩)⟩⟩
  · cases hz
    obtain ⟨v, rfl, r'⟩ := pr1 r
    obtain ⟨a, xs, rfl, h1, r1⟩ := r'.fzl xx
    exact ⟨_, _, rfl, .inl ⟨h1, fun p o ho hp => k _ _ (.inl ⟨p, o, _, rfl, ho, hp, rfl, r1⟩)⟩⟩
  · cases hz
    obtain ⟨v, rfl, r'⟩ := pr1 r
    obtain ⟨a, xs, rfl, h1, r1, p1⟩ := r'.tup xx
    exact ⟨_, _, rfl, .inr ⟨h1.1, k _ _ (.inr ⟨rfl, p1⟩)⟩⟩
  · cases hz
end DL

set_option Elab.async false
set_option maxRecDepth 100000
set_option maxHeartbeats 4000000
/-! DL11: ==, in, is, isinstance, dict(pairs).get, repr. -/
namespace DL
open PySem PySem.Spec PyProof.Rows L2

/-! ### == and != -/
theorem fin_b {X : Cx} {pins : List (Addr × Obj)} {σ : L2.St} {H : Hp} {s : Shared} {Q : VK} {c : Bool} (I : Inv X pins σ H s) (q : Q (.bl c) H) : EP X pins σ Q (.bool c) s := ⟨.bl c, H, I, rfl, q⟩
/-- lists of other lengths, empty tuples: what the items are is not asked -/
def quick : D → D → Option Bool
  | .lst l, .lst m => if l.length = m.length then none else some false
  | .tup l, .tup m => if l = [] ∨ m = [] then some (l.length == m.length) else none
  | .str x, .str y => some (x == y)
  | _, _ => none
def rQuick (K : PySem.W.Frag) (neg : Bool) : R2 := fun x y H Q => (∃ i j, x = .str i ∧ y = .str j ∧ Q (.bl (neg != (i == j))) H) ∨ ∃ a b xs ys, x = .ref a ∧ y = .ref b ∧
  ((SqL K H a xs ∧ SqL K H b ys ∧ xs.length ≠ ys.length ∧ Q (.bl (neg != false)) H) ∨ (SqT K H a xs ∧ SqT K H b ys ∧ (xs = [] ∨ ys = []) ∧ Q (.bl (neg != (xs.length == ys.length))) H))
theorem min_zero {a b : Nat} (h : a = 0 ∨ b = 0) : min a b = 0 := by omega
section
variable {X : Cx}
theorem op_eqQ (hu : X.A.units < cLine) : OpR X (compareOp .Eq) (rQuick X.K false) := by
  intro pins s σ H x y v u Q I rx ry h
  rcases h with ⟨i, j, rfl, rfl, q⟩ | h
  · obtain ⟨t, rfl⟩ := rx
    obtain ⟨t', rfl⟩ := ry
    have e0 : ∀ c : Bool, (false != c) = c := fun c => by cases c <;> rfl
    rw [e0] at q
    exact SeqAt.RcAt.str_str i t j t' X.prog X.w X.xe _ (fin_b I q)
  obtain ⟨a, b, xs, ys, rfl, rfl, h⟩ := h
  cases rx
  cases ry
  rcases h with ⟨h1, h2, hn, q⟩ | ⟨h1, h2, hn, q⟩
  · obtain ⟨its, r1, p1, _⟩ := I.list h1
    obtain ⟨its2, r2, p2, _⟩ := I.list h2
    refine SeqAt.eq_list_lengthsAt p1.isList p2.isList ?_ hu (fin_b I q)
    have e1 := r1.length
    have e2 := r2.length
    rw [List.size_toArray, List.size_toArray]
    exact bne_iff_ne.mpr (by omega)
  · obtain ⟨its, r1, p1, _⟩ := I.tuple h1
    obtain ⟨its2, r2, p2, _⟩ := I.tuple h2
    have e1 := r1.length
    have e2 := r2.length
    have h0 : its.toArray.size = 0 ∨ its2.toArray.size = 0 := by
      rw [List.size_toArray, List.size_toArray]
      rcases hn with rfl | rfl
      · exact .inl e1.symm
      · exact .inr e2.symm
    refine SeqAt.eq_tupleAt (e := fun _ => true) p1 p2 hu (fun j j1 j2 => by omega) ?_
    have : ((List.range (min its.toArray.size its2.toArray.size)).all (fun _ => true) && its.toArray.size == its2.toArray.size) = (xs.length == ys.length) := by
      rw [min_zero h0, List.size_toArray, List.size_toArray, e1, e2]; rfl
    rw [this]
    have q' : Q (.bl (xs.length == ys.length)) H := by
      have e0 : ∀ c : Bool, (false != c) = c := fun c => by cases c <;> rfl
      rw [e0] at q; exact q
    exact fin_b I q'
theorem rc_ne_op {A : Around} {s : Shared} {a b : Value} {c : Bool} (h : SeqAt.RcNeAt A s a b c) {prog : Program} {w : World} {E : Value → Shared → Prop} {Q : Value → Shared → Prop} (q : Q (.bool c) s) : wpAny (model prog w) A (compareOp .NotEq a b) Q E s := h prog w E Q q
theorem op_neQ (hu : X.A.units < cLine) : OpR X (compareOp .NotEq) (rQuick X.K true) := by
  intro pins s σ H x y v u Q I rx ry h
  rcases h with ⟨i, j, rfl, rfl, q⟩ | h
  · obtain ⟨t, rfl⟩ := rx
    obtain ⟨t', rfl⟩ := ry
    have e0 : ∀ c : Bool, (true != c) = !c := fun c => by cases c <;> rfl
    rw [e0] at q
    exact rc_ne_op (SeqAt.RcNeAt.str_str i t j t') (fin_b I q)
  obtain ⟨a, b, xs, ys, rfl, rfl, h⟩ := h
  cases rx
  cases ry
  rcases h with ⟨h1, h2, hn, q⟩ | ⟨h1, h2, hn, q⟩
  · obtain ⟨its, r1, p1, _⟩ := I.list h1
    obtain ⟨its2, r2, p2, _⟩ := I.list h2
    refine rc_ne_op (SeqAt.RcNeAt.lists_lengths p1.isList p2.isList ?_ hu) (fin_b I q)
    have e1 := r1.length
    have e2 := r2.length
    rw [List.size_toArray, List.size_toArray]
    exact bne_iff_ne.mpr (by omega)
  · obtain ⟨its, r1, p1, _⟩ := I.tuple h1
    obtain ⟨its2, r2, p2, _⟩ := I.tuple h2
    have e1 := r1.length
    have e2 := r2.length
    have h0 : its.toArray.size = 0 ∨ its2.toArray.size = 0 := by
      rw [List.size_toArray, List.size_toArray]
      rcases hn with rfl | rfl
      · exact .inl e1.symm
      · exact .inr e2.symm
    refine rc_ne_op (SeqAt.RcNeAt.tuples (e := fun _ => true) p1 p2 hu (fun j j1 j2 => by omega)) ?_
    have : (!((List.range (min its.toArray.size its2.toArray.size)).all (fun _ => true) && its.toArray.size == its2.toArray.size)) = (true != (xs.length == ys.length)) := by
      rw [min_zero h0, List.size_toArray, List.size_toArray, e1, e2]
      show (!(true && _)) = _
      generalize (its.length == its2.length) = c
      cases c <;> rfl
    rw [this]
    exact fin_b I q
/-- data of any depth, the one of them flat enough -/
def rEqP (K : PySem.W.Frag) (neg : Bool) : R2 := fun x y H Q => ∃ d e, Dp K H x d ∧ Dp K H y e ∧ d.canLay0 = true ∧ e.canLay0 = true ∧ min d.depth e.depth ≤ 64 ∧ Q (.bl (neg != PyData.eqv d e)) H
theorem op_eqP (hu : X.A.units + 64 < cLine) : OpR X (compareOp .Eq) (rEqP X.K false) := by
  intro pins s σ H x y v u Q I rx ry h
  obtain ⟨d, e, hd, he, sd, se, hm, q⟩ := h
  obtain ⟨as, r1⟩ := Dp.reads I d x v hd rx
  obtain ⟨bs, r2⟩ := Dp.reads I e y u he ry
  have e0 : ∀ c : Bool, (false != c) = c := fun c => by cases c <;> rfl
  rw [e0] at q
  exact SeqAt.compareEq_reads r1 r2 sd se (by omega) (fin_b I q)
theorem op_neP (hu : X.A.units + 64 < cLine) : OpR X (compareOp .NotEq) (rEqP X.K true) := by
  intro pins s σ H x y v u Q I rx ry h
  obtain ⟨d, e, hd, he, sd, se, hm, q⟩ := h
  obtain ⟨as, r1⟩ := Dp.reads I d x v hd rx
  obtain ⟨bs, r2⟩ := Dp.reads I e y u he ry
  have e0 : ∀ c : Bool, (true != c) = !c := fun c => by cases c <;> rfl
  rw [e0] at q
  exact SeqAt.compareNe_reads r1 r2 sd se (by omega) (fin_b I q)
def rEqA (K : PySem.W.Frag) (neg : Bool) : R2 := fun x y H Q => rQuick K neg x y H Q ∨ rEqP K neg x y H Q
theorem op_eqA (hu : X.A.units + 64 < cLine) : OpR X (compareOp .Eq) (rEqA X.K false) := (op_eqQ (by omega)).or (op_eqP hu)
theorem op_neA (hu : X.A.units + 64 < cLine) : OpR X (compareOp .NotEq) (rEqA X.K true) := (op_neQ (by omega)).or (op_neP hu)
end
def deepEq (d e : D) : Option Bool := (pyD d).bind fun p => (pyD e).bind fun q => if p.canLay0 = true ∧ q.canLay0 = true ∧ min p.depth q.depth ≤ 64 then some (PyData.eqv p q) else none
def gEqB (d e : D) : Option Bool := match quick d e with
  | some c => some c
  | none => deepEq d e
def gEqA (neg : Bool) (d e : D) : Option Z := (gEqB d e).map fun c => .d (.bl (neg != c))
theorem deepEq_get {d e : D} {c : Bool} (h : deepEq d e = some c) : ∃ p q, pyD d = some p ∧ pyD e = some q ∧ p.canLay0 = true ∧ q.canLay0 = true ∧ min p.depth q.depth ≤ 64 ∧ c = PyData.eqv p q := by
  unfold deepEq at h
  cases e1 : pyD d with
  | none => rw [e1] at h; cases h
  | some p =>
    rw [e1] at h
    have h : ((pyD e).bind fun q => if p.canLay0 = true ∧ q.canLay0 = true ∧ min p.depth q.depth ≤ 64 then some (PyData.eqv p q) else none) = some c := h
    cases e2 : pyD e with
    | none => rw [e2] at h; cases h
    | some q =>
      rw [e2] at h
      have h : (if p.canLay0 = true ∧ q.canLay0 = true ∧ min p.depth q.depth ≤ 64 then some (PyData.eqv p q) else none) = some c := h
      split at h
      · rename_i hs
        cases h
        exact ⟨p, q, rfl, rfl, hs.1, hs.2.1, hs.2.2, rfl⟩
      · cases h
theorem o_eqA {K : PySem.W.Frag} {neg : Bool} : Op2 K (rEqA K neg) (gEqA neg) := fun H G x y d e z Q xx rx ry hz k => by
  unfold gEqA gEqB at hz
  cases hq : quick d e with
  | none =>
    rw [hq] at hz
    dsimp only at hz
    cases hd : deepEq d e with
    | none => rw [hd] at hz; cases hz
    | some c =>
      rw [hd] at hz
      cases hz
      obtain ⟨p, q, h1, h2, h3, h4, h5, rfl⟩ := deepEq_get hd
      exact .inr ⟨p, q, rc_dp xx rx h1, rc_dp xx ry h2, h3, h4, h5, k _ H ⟨rfl, .bl _⟩⟩
  | some c =>
    rw [hq] at hz
    cases hz
    unfold quick at hq
    split at hq
    · split at hq
      · cases hq
      · rename_i l m hlm
        cases hq
        obtain ⟨a, xs, rfl, h1, r1⟩ := rx.lst xx
        obtain ⟨b, ys, rfl, h2, r2⟩ := ry.lst xx
        exact .inl (.inr ⟨a, b, xs, ys, rfl, rfl, .inl ⟨SqL.of h1, SqL.of h2, by rw [r1.len, r2.len]; exact hlm, k _ H ⟨rfl, .bl _⟩⟩⟩)
    · split at hq
      · rename_i l m hlm
        cases hq
        obtain ⟨a, xs, rfl, ⟨h1, _⟩, r1, _⟩ := rx.tup xx
        obtain ⟨b, ys, rfl, ⟨h2, _⟩, r2, _⟩ := ry.tup xx
        refine .inl (.inr ⟨a, b, xs, ys, rfl, rfl, .inr ⟨h1, h2, ?_, ?_⟩⟩)
        · rcases hlm with rfl | rfl
          · cases r1; exact .inl rfl
          · cases r2; exact .inr rfl
        · rw [r1.len, r2.len]; exact k _ H ⟨rfl, .bl _⟩
      · cases hq
    · cases hq
      obtain rfl := rx.str
      obtain rfl := ry.str
      exact .inl (.inl ⟨_, _, rfl, rfl, k _ H ⟨rfl, .bl _⟩⟩)
    · cases hq

/-! ### in, not in: a list or tuple of data, a text in a text -/
def rInP (K : PySem.W.Frag) (neg : Bool) : R2 := fun x y H Q => ∃ a xs d es, y = .ref a ∧ (SqL K H a xs ∨ SqT K H a xs) ∧ Dp K H x d ∧ DpAll K H xs es ∧ d.canLay0 = true ∧ d.depth ≤ 64 ∧ PyData.canLayAll0 es = true ∧ Q (.bl (neg != es.any fun e => PyData.eqv e d)) H
/-- the item y, read, is as d -/
noncomputable def hitR (h : Heap) (d : PyData) (y : Value) : Bool := @decide (∃ p as, Reads h y p as ∧ PyData.eqv p d = true) (Classical.propDecidable _)
theorem hitR_eq {h : Heap} {d p : PyData} {y : Value} {as : List Addr} (r : Reads h y p as) : hitR h d y = PyData.eqv p d := by
  unfold hitR
  cases q : PyData.eqv p d with
  | true => exact @decide_eq_true _ (Classical.propDecidable _) ⟨p, as, r, q⟩
  | false =>
    refine @decide_eq_false _ (Classical.propDecidable _) fun z => ?_
    obtain ⟨p', as', r', q'⟩ := z
    have := (Reads.unique r p' as' r').1
    subst this
    rw [q] at q'; cases q'
theorem hit_any {h : Heap} {d : PyData} : ∀ {vs : List Value} {es : List PyData} {as : List Addr}, ReadsAll h vs es as → vs.any (hitR h d) = es.any fun e => PyData.eqv e d
  | _, _, _, .nil => rfl
  | _, _, _, .cons r rs => by rw [List.any_cons, List.any_cons, hitR_eq r, hit_any rs]
theorem hit_at {A : Around} {s : Shared} {d : PyData} {x : Value} {bs : List Addr} (rx : Reads s.heap x d bs) (hd : d.canLay0 = true) (hz : A.units + d.depth < cLine) : ∀ {vs : List Value} {es : List PyData} {as : List Addr}, ReadsAll s.heap vs es as → PyData.canLayAll0 es = true → ∀ y ∈ vs, SeqAt.EqAt A s y x (hitR s.heap d y)
  | _, _, _, .nil, _, y, h => by cases h
  | _, _, _, .cons (d := e) (ds := es) r rs, hc, y, h => by
    have hc' : (e.canLay0 && PyData.canLayAll0 es) = true := by unfold PyData.canLayAll0 at hc; exact hc
    rw [Bool.and_eq_true] at hc'
    rcases List.mem_cons.mp h with rfl | h
    · rw [hitR_eq r]
      exact SeqAt.eqAt_reads _ _ A s _ _ _ _ r rx hc'.1 hd (by omega)
    · exact hit_at rx hd hz rs hc'.2 y h
section
variable {X : Cx}
theorem op_inP (hu : X.A.units + 66 < cLine) : OpR X (compareOp .In) (rInP X.K false) := by
  intro pins s σ H x y v u Q I rx ry h
  obtain ⟨a, xs, d, es, rfl, hq, hd, he, c1, c2, c3, q⟩ := h
  cases ry
  obtain ⟨bs, r1⟩ := Dp.reads I d x v hd rx
  have e0 : ∀ c : Bool, (false != c) = c := fun c => by cases c <;> rfl
  rw [e0] at q
  have hz : X.A.in1.units + d.depth < cLine := by
    have : X.A.in1.units ≤ X.A.units + 1 := by first | exact Nat.le_refl _ | simp [Around.in1]
    omega
  rcases hq with hq | hq
  · obtain ⟨its, rv, pl, _⟩ := I.list hq
    obtain ⟨as, r2⟩ := Dp.readsAll I es _ its he rv
    refine SeqAt.in_listAt (hitR s.heap d) pl.isList (fun w hw => hit_at r1 c1 hz r2 c3 w (by simpa using hw)) ?_
    rw [List.any_toArray, hit_any r2]
    exact fin_b I q
  · obtain ⟨its, rv, pl, _⟩ := I.tuple hq
    obtain ⟨as, r2⟩ := Dp.readsAll I es _ its he rv
    refine SeqAt.in_tupleAt (hitR s.heap d) pl (fun w hw => hit_at r1 c1 hz r2 c3 w (by simpa using hw)) ?_
    rw [List.any_toArray, hit_any r2]
    exact fin_b I q
theorem op_notInP (hu : X.A.units + 66 < cLine) : OpR X (compareOp .NotIn) (rInP X.K true) := by
  intro pins s σ H x y v u Q I rx ry h
  obtain ⟨a, xs, d, es, rfl, hq, hd, he, c1, c2, c3, q⟩ := h
  cases ry
  obtain ⟨bs, r1⟩ := Dp.reads I d x v hd rx
  have e0 : ∀ c : Bool, (true != c) = !c := fun c => by cases c <;> rfl
  rw [e0] at q
  have hz : X.A.in1.units + d.depth < cLine := by
    have : X.A.in1.units ≤ X.A.units + 1 := by first | exact Nat.le_refl _ | simp [Around.in1]
    omega
  rcases hq with hq | hq
  · obtain ⟨its, rv, pl, _⟩ := I.list hq
    obtain ⟨as, r2⟩ := Dp.readsAll I es _ its he rv
    refine SeqAt.notIn_listAt (hitR s.heap d) pl.isList (fun w hw => hit_at r1 c1 hz r2 c3 w (by simpa using hw)) ?_
    rw [List.any_toArray, hit_any r2]
    exact fin_b I q
  · obtain ⟨its, rv, pl, _⟩ := I.tuple hq
    obtain ⟨as, r2⟩ := Dp.readsAll I es _ its he rv
    refine SeqAt.notIn_tupleAt (hitR s.heap d) pl (fun w hw => hit_at r1 c1 hz r2 c3 w (by simpa using hw)) ?_
    rw [List.any_toArray, hit_any r2]
    exact fin_b I q
end
def seqD : D → Option (List D)
  | .lst l => some l
  | .tup l => some l
  | _ => none
def inB (d y : D) : Option Bool := (seqD y).bind fun l => (pyD d).bind fun p => (pyDs l).bind fun es => if p.canLay0 = true ∧ p.depth ≤ 64 ∧ PyData.canLayAll0 es = true then some (es.any fun e => PyData.eqv e p) else none
def gIn (neg : Bool) (d y : D) : Option Z := (inB d y).map fun c => .d (.bl (neg != c))
theorem inB_get {d y : D} {c : Bool} (h : inB d y = some c) : ∃ l p es, seqD y = some l ∧ pyD d = some p ∧ pyDs l = some es ∧ p.canLay0 = true ∧ p.depth ≤ 64 ∧ PyData.canLayAll0 es = true ∧ c = es.any fun e => PyData.eqv e p := by
  unfold inB at h
  cases e0 : seqD y with
  | none => rw [e0] at h; cases h
  | some l =>
    rw [e0] at h
    have h : ((pyD d).bind fun p => (pyDs l).bind fun es => if p.canLay0 = true ∧ p.depth ≤ 64 ∧ PyData.canLayAll0 es = true then some (es.any fun e => PyData.eqv e p) else none) = some c := h
    cases e1 : pyD d with
    | none => rw [e1] at h; cases h
    | some p =>
      rw [e1] at h
      have h : ((pyDs l).bind fun es => if p.canLay0 = true ∧ p.depth ≤ 64 ∧ PyData.canLayAll0 es = true then some (es.any fun e => PyData.eqv e p) else none) = some c := h
      cases e2 : pyDs l with
      | none => rw [e2] at h; cases h
      | some es =>
        rw [e2] at h
        have h : (if p.canLay0 = true ∧ p.depth ≤ 64 ∧ PyData.canLayAll0 es = true then some (es.any fun e => PyData.eqv e p) else none) = some c := h
        split at h
        · rename_i hs
          cases h
          exact ⟨l, p, es, rfl, rfl, e2, hs.1, hs.2.1, hs.2.2, rfl⟩
        · cases h
theorem o_in {K : PySem.W.Frag} {neg : Bool} : Op2 K (rInP K neg) (gIn neg) := fun H G x y d e z Q xx rx ry hz k => by
  unfold gIn at hz
  cases hd : inB d e with
  | none => rw [hd] at hz; cases hz
  | some c =>
    rw [hd] at hz
    cases hz
    obtain ⟨l, p, es, h0, h1, h2, h3, h4, h5, rfl⟩ := inB_get hd
    cases e <;> cases h0
    · obtain ⟨a, xs, rfl, q1, r1⟩ := ry.lst xx
      exact ⟨a, xs, p, es, rfl, .inl (SqL.of q1), rc_dp xx rx h1, pyDs_dp xx r1 h2, h3, h4, h5, k _ H ⟨rfl, .bl _⟩⟩
    · obtain ⟨a, xs, rfl, q1, r1, _⟩ := ry.tup xx
      exact ⟨a, xs, p, es, rfl, .inr q1.1, rc_dp xx rx h1, pyDs_dp xx r1 h2, h3, h4, h5, k _ H ⟨rfl, .bl _⟩⟩

/-! ### is, is not -/
def nonD : D → Bool
  | .non => true
  | _ => false
def isB (d e : D) : Option Bool := match e with
  | .non => some (nonD d)
  | .bl c => match d with
    | .bl a => some (decide (a = c))
    | _ => none
  | _ => none
def gIs (neg : Bool) (d e : D) : Option Z := (isB d e).map fun c => .d (.bl (neg != c))
def rIsA (neg : Bool) : R2 := fun x y H Q => (y = .non ∧ Q (.bl (neg != decide (x = .non))) H) ∨ ∃ a b : Bool, x = .bl a ∧ y = .bl b ∧ Q (.bl (neg != decide (a = b))) H
section
variable {X : Cx}
theorem op_isA : OpR X (compareOp .Is) (rIsA false) := by
  intro pins s σ H x y v u Q I rx ry h
  have e0 : ∀ c : Bool, (false != c) = c := fun c => by cases c <;> rfl
  rcases h with ⟨h, q⟩ | ⟨a, b, h1, h2, q⟩
  · rw [e0] at q; exact op_isN pins s σ H x y v u Q I rx ry ⟨h, q⟩
  · rw [e0] at q; exact op_isBl pins s σ H x y v u Q I rx ry ⟨a, b, h1, h2, q⟩
theorem op_notA : OpR X (compareOp .IsNot) (rIsA true) := by
  intro pins s σ H x y v u Q I rx ry h
  have e0 : ∀ c : Bool, (true != c) = !c := fun c => by cases c <;> rfl
  rcases h with ⟨h, q⟩ | ⟨a, b, h1, h2, q⟩
  · rw [e0] at q; exact op_notN pins s σ H x y v u Q I rx ry ⟨h, q⟩
  · rw [e0] at q; exact op_notBl pins s σ H x y v u Q I rx ry ⟨a, b, h1, h2, q⟩
end
theorem rc_non {K : PySem.W.Frag} {H G : Hp} {x : V} {d : D} (r : Rc K H G x d) : decide (x = .non) = nonD d := by
  rcases r with r | ⟨a, h, o, rfl, h1, r, rfl⟩
  · cases r <;> rfl
  · cases o <;> rfl
theorem o_is {K : PySem.W.Frag} {neg : Bool} : Op2 K (rIsA neg) (gIs neg) := fun H G x y d e z Q xx rx ry hz k => by
  unfold gIs at hz
  cases hd : isB d e with
  | none => rw [hd] at hz; cases hz
  | some c =>
    rw [hd] at hz
    cases hz
    unfold isB at hd
    split at hd
    · cases hd
      have hy : y = .non := by
        rcases ry with ry | ⟨a, h, o, _, _, _, z⟩
        · cases ry; rfl
        · cases o <;> cases z
      refine .inl ⟨hy, ?_⟩
      rw [rc_non rx]
      exact k _ H ⟨rfl, .bl _⟩
    · split at hd
      · cases hd
        obtain rfl := rx.bl
        obtain rfl := ry.bl
        exact .inr ⟨_, _, rfl, rfl, k _ H ⟨rfl, .bl _⟩⟩
      · cases hd
    · cases hd

/-! ### isinstance(x, T), T a built-in type, data -/
def tyD : D → Option String
  | .non => some "NoneType"
  | .bl _ => some "bool"
  | .int _ => some "int"
  | .str _ => some "str"
  | .lst _ => some "list"
  | .fzl _ => some "list"
  | .tup _ => some "tuple"
  | .dct _ => some "dict"
  | _ => none
/-- of an instance's class nothing is told here -/
def isiB (a b : String) : Option Bool := if a ∈ ["NoneType", "bool", "int", "str", "list", "tuple", "dict"] ∧ b ∈ ["bool", "int", "str", "list", "tuple", "dict"] then some (a == b || (a == "bool" && b == "int")) else none
theorem isiB_all : (["NoneType", "bool", "int", "str", "list", "tuple", "dict"].all fun a => ["bool", "int", "str", "list", "tuple", "dict"].all fun b => kitB a b == some (a == b || (a == "bool" && b == "int"))) = true := by decide +kernel
theorem isiB_ok {a b : String} {c : Bool} (h : isiB a b = some c) : kitB a b = some c := by
  unfold isiB at h
  split at h
  · rename_i hs
    cases h
    have h1 := List.all_eq_true.mp isiB_all a hs.1
    have h2 := List.all_eq_true.mp h1 b hs.2
    exact eq_of_beq h2
  · cases h
theorem tyx {K : PySem.W.Frag} {H G : Hp} {x : V} {d : D} {t : String} (xx : Ex G H) (r : Rc K H G x d) (h : tyD d = some t) : TyX K H x (.type t) := by
  rcases r with r | ⟨a, hh, o, rfl, h1, r, rfl⟩
  · cases r with
    | non => cases h; exact .base .non
    | bl c => cases h; exact .base (.bl c)
    | int i => cases h; exact .base (.int i)
    | str x => cases h; exact .base (.str x)
    | lst q r => cases h; exact .base (.lst (xx _ _ q))
    | fzl q r =>
      cases h
      rcases xx.sql q with (q | ⟨o, q⟩) | ⟨o, its, n, q, hc, _⟩
      · exact .base (.lst q)
      · exact .base (.frz q)
      · exact .kList q hc
    | tup q r =>
      cases h
      rcases xx.sqt q.1 with (q | ⟨o, q⟩) | ⟨o, its, n, q, hc, _⟩
      · exact .base (.tup q)
      · exact .fTuple q
      · exact .kTuple q hc
    | dct q r => cases h; exact .base (.dK (xx _ _ q))
    | ins q r => cases h
    | wt q r => cases h
    | ty n => cases h
    | cls C => cases h
  · cases r with
    | lst r => cases h; exact .base (.lst h1)
    | dct r => cases h; exact .base (.dK h1)
    | ins r => cases h
def gIsi : List D → Option Z
  | [d, .ty T] => ((tyD d).bind fun t => isiB t T).map fun c => .d (.bl c)
  | _ => none
theorem Rc.ty {K : PySem.W.Frag} {H G : Hp} {x : V} {n : String} (r : Rc K H G x (.ty n)) : x = .ty n := by
  rcases r with r | ⟨a, h, o, _, _, _, z⟩
  · cases r; rfl
  · cases o <;> cases z
theorem b_isi {K : PySem.W.Frag} : FnB K (rIsi K) gIsi := fun H G xs ds z Q xx r hz k => by
  unfold gIsi at hz
  split at hz
  · rename_i d T
    cases h1 : tyD d with
    | none => rw [h1] at hz; cases hz
    | some t =>
      rw [h1] at hz
      have hz : (isiB t T).map (fun c => Z.d (.bl c)) = some z := hz
      cases h2 : isiB t T with
      | none => rw [h2] at hz; cases hz
      | some c =>
        rw [h2] at hz
        cases hz
        obtain ⟨x, y, rfl, r1, r2⟩ := pr2 r
        obtain rfl := r2.ty
        exact ⟨x, .ty T, .type t, .type T, c, rfl, .ty T, tyx xx r1 h1, kit_ty (isiB_ok h2), k _ H ⟨rfl, .bl _⟩⟩
  · cases hz
end DL

set_option Elab.async false
set_option maxRecDepth 100000
set_option maxHeartbeats 4000000
/-! DL12: dict(pairs), get, repr, what is walked of any kind, calls by promises. -/
namespace DL
open PySem PySem.Spec PyProof.Rows L2

/-! ### tables -/
def putKD (kvs : List (Key × D)) (k : Key) (v : D) : List (Key × D) := if (kvs.any fun kv => decide (kv.1 = k)) = true then kvs.map (fun kv => if kv.1 = k then (kv.1, v) else kv) else kvs ++ [(k, v)]
def mergeKD (kvs more : List (Key × D)) : List (Key × D) := more.foldl (fun acc kv => putKD acc kv.1 kv.2) kvs
def lookKD (kvs : List (Key × D)) (k : Key) : Option D := (kvs.find? fun kv => decide (kv.1 = k)).map (·.2)
def keyD : D → Option Key
  | .int i => some (.inl i)
  | .str x => some (.inr x)
  | _ => none
theorem keyD_rp {K : PySem.W.Frag} {G : Hp} {v : V} {d : D} {k : Key} (r : Rp K G v d) (h : keyD d = some k) : v = kV k := by
  cases r with
  | int i => cases h; rfl
  | str x => cases h; rfl
  | _ => cases h
section
variable {K : PySem.W.Frag} {G : Hp}
theorem RpK.any (k : Key) : ∀ {ks : List (Key × V)} {ds : List (Key × D)}, RpK K G ks ds → (ks.any fun kv => decide (kv.1 = k)) = ds.any fun kv => decide (kv.1 = k)
  | _, _, .nil => rfl
  | _, _, .cons h r => by rw [List.any_cons, List.any_cons, RpK.any k r]
theorem RpK.repl {v : V} {d : D} (k : Key) (q : Rp K G v d) : ∀ {ks : List (Key × V)} {ds : List (Key × D)}, RpK K G ks ds → RpK K G (ks.map fun kv => if kv.1 = k then (kv.1, v) else kv) (ds.map fun kv => if kv.1 = k then (kv.1, d) else kv)
  | _, _, .nil => .nil
  | _, _, .cons (k := j) h r => by
    rw [List.map_cons, List.map_cons]
    by_cases e : j = k
    · rw [if_pos e, if_pos e]; exact .cons q (RpK.repl k q r)
    · rw [if_neg e, if_neg e]; exact .cons h (RpK.repl k q r)
theorem RpK.snoc {v : V} {d : D} (k : Key) (q : Rp K G v d) : ∀ {ks : List (Key × V)} {ds : List (Key × D)}, RpK K G ks ds → RpK K G (ks ++ [(k, v)]) (ds ++ [(k, d)])
  | _, _, .nil => .cons q .nil
  | _, _, .cons h r => .cons h (RpK.snoc k q r)
theorem RpK.put {v : V} {d : D} (k : Key) (q : Rp K G v d) {ks : List (Key × V)} {ds : List (Key × D)} (r : RpK K G ks ds) : RpK K G (putK ks k v) (putKD ds k d) := by
  unfold putK putKD
  rw [RpK.any k r]
  split
  · exact RpK.repl k q r
  · exact RpK.snoc k q r
theorem RpK.merge : ∀ {more : List (Key × V)} {dm : List (Key × D)} {ks : List (Key × V)} {ds : List (Key × D)}, RpK K G more dm → RpK K G ks ds → RpK K G (mergeK ks more) (mergeKD ds dm)
  | _, _, ks, ds, .nil, q => q
  | _, _, ks, ds, .cons (k := k) h r, q => by
    show RpK K G (mergeK (putK ks k _) _) (mergeKD (putKD ds k _) _)
    exact RpK.merge r (RpK.put k h q)
theorem RpK.look (k : Key) : ∀ {ks : List (Key × V)} {ds : List (Key × D)}, RpK K G ks ds → (valV ks k = none ∧ lookKD ds k = none) ∨ ∃ v d, valV ks k = some v ∧ lookKD ds k = some d ∧ Rp K G v d
  | _, _, .nil => .inl ⟨rfl, rfl⟩
  | _, _, .cons (k := j) (v := v) (d := d) h r => by
    unfold valV lookKD
    rw [List.find?_cons, List.find?_cons]
    by_cases e : j = k
    · rw [decide_eq_true (show (j, v).1 = k from e)]
      exact .inr ⟨v, d, rfl, rfl, h⟩
    · rw [decide_eq_false (show ¬ (j, v).1 = k from e)]
      exact RpK.look k r
end
/-- a tuple's or list's items, pairs of a key and something -/
def pairsD : List D → Option (List (Key × D))
  | [] => some []
  | .tup [k, v] :: r => (keyD k).bind fun k => (pairsD r).map fun ps => (k, v) :: ps
  | _ :: _ => none
theorem pairsD_ok {K : PySem.W.Frag} {G : Hp} : ∀ {xs : List V} {ds : List D} {ps : List (Key × D)}, RpA K G xs ds → pairsD ds = some ps → ∃ (as : List Addr) (kvs : List (Key × V)), xs = as.map V.ref ∧ Paired (fun p (kv : Key × V) => SqT K G p [kV kv.1, kv.2]) as kvs ∧ RpK K G kvs ps
  | _, _, ps, .nil, h => by cases h; exact ⟨[], [], rfl, .nil, .nil⟩
  | _, _, ps, .cons (d := d) (ds := ds) r rs, h => by
    unfold pairsD at h
    split at h
    · rename_i e; cases e
    · rename_i k v r' e
      cases e
      cases hk : keyD k with
      | none => rw [hk] at h; cases h
      | some key =>
        rw [hk] at h
        have h : (pairsD ds).map (fun ps => (key, v) :: ps) = some ps := h
        cases hr : pairsD ds with
        | none => rw [hr] at h; cases h
        | some qs =>
          rw [hr] at h
          cases h
          obtain ⟨as, kvs, rfl, p1, p2⟩ := pairsD_ok rs hr
          cases r with
          | tup h1 h2 =>
            cases h2 with
            | cons u1 u2 =>
              cases u2 with
              | cons u2 u3 =>
                cases u3
                obtain rfl := keyD_rp u1 hk
                exact ⟨_ :: as, (key, _) :: kvs, rfl, .cons h1.1 p1, .cons u2 p2⟩
    · cases h
theorem Paired.up {α β : Type} {F F' : α → β → Prop} (f : ∀ a b, F a b → F' a b) : ∀ {l : List α} {m : List β}, Paired F l m → Paired F' l m
  | _, _, .nil => .nil
  | _, _, .cons h t => .cons (f _ _ h) (Paired.up f t)
section
variable {X : Cx} {pins : List (Addr × Obj)} {σ : L2.St} {H : Hp} {s : Shared}
theorem pairs_vals (I : Inv X pins σ H s) : ∀ {ps : List Addr} {kvs : List (Key × V)}, Paired (fun p kv => SqT X.K H p [kV kv.1, kv.2]) ps kvs →
    ∃ (prs : List (Key × Value)) (us : List (Value × Value)), KV kvs prs ∧ us.length = ps.length ∧ prs.length = ps.length ∧ (∀ (j : Nat) (k v : Value), us[j]? = some (k, v) → ∃ b, ps[j]? = some b ∧ IsTup s.heap b #[k, v]) ∧
      ∀ (j : Nat) (k v : Value), us[j]? = some (k, v) → ∃ key, prs[j]? = some (key, v) ∧ keyIs key k = true
  | _, _, .nil => ⟨[], [], .nil, rfl, rfl, fun j k v e => by simp at e, fun j k v e => by simp at e⟩
  | _, _, .cons (a := p) (b := kv) h t => by
    obtain ⟨prs, us, r, hl, hl2, h1, h2⟩ := pairs_vals I t
    obtain ⟨its, rv, ht, _⟩ := I.tuple h
    obtain ⟨u, y, ei, ru, ry⟩ := vals2 rv
    subst ei
    refine ⟨(kv.1, y) :: prs, (u, y) :: us, .cons ⟨rfl, ry⟩ r, by rw [List.length_cons, List.length_cons, hl], by rw [List.length_cons, List.length_cons, hl2], fun j k v e => ?_, fun j k v e => ?_⟩
    · cases j with
      | zero => cases e; exact ⟨p, rfl, ht⟩
      | succ j =>
        obtain ⟨b, e1, e2⟩ := h1 j k v (by simpa using e)
        exact ⟨b, by simpa using e1, e2⟩
    · cases j with
      | zero => cases e; exact ⟨kv.1, rfl, kV_is (P := X.prog) (w := X.w) ru⟩
      | succ j =>
        obtain ⟨key, e1, e2⟩ := h2 j k v (by simpa using e)
        exact ⟨key, by simpa using e1, e2⟩
theorem sqp_obj (I : Inv X pins σ H s) {a : Addr} {xs : List V} (h : SqP X.K H a xs) : ∃ (its : List Value) (o : Obj) (n : Nat), Vals xs its ∧ s.heap.get? a = some o ∧ o.cls = .type "tuple" ∧ o.dict = none ∧ o.data = .seq its.toArray n ∧ xs.length ≤ sizeLine := by
  obtain ⟨its, r, ⟨o, ho, hc, n, hd⟩, hz⟩ := I.tuple h.1
  refine ⟨its, o, n, r, ho, hc, ?_, hd, hz⟩
  rcases h.2 with ⟨o', u, h1, h2⟩ | ⟨o', h1, h2⟩
  · have := (show ObjOk X.prog X.w H s.heap a (.frz o' u) from I.hok a _ h1).1
    rw [ho] at this; cases this; exact h2
  · have := I.kIn _ _ h1
    rw [ho] at this; cases this; exact h2
end
def rDictT (K : PySem.W.Frag) : List V → Hp → VK → Prop := fun xs H Q => ∃ (a : Addr) (ps : List Addr) (kvs : List (Key × V)), xs = [.ref a] ∧ SqP K H a (ps.map V.ref) ∧ Paired (fun p kv => SqT K H p [kV kv.1, kv.2]) ps kvs ∧
    ∀ p, H p = none → Q (.ref p) (upd H p (.dK (mergeK [] kvs)))
theorem call_dictT {X : Cx} (hcalm : X.calm = true) : CallR X (.type "dict") (rDictT X.K) := by
  intro pins s σ H xs us Q I r q
  obtain ⟨a, ps, kvs, ex, hq, hp, q⟩ := q
  subst ex
  obtain ⟨u, eu, rx⟩ := vals1 r
  subst eu
  cases rx
  obtain ⟨its, o, n, rv, ho, hc, hd, hdat, hz⟩ := sqp_obj I hq
  have ei := refs_at rv
  subst ei
  rw [List.length_map] at hz
  obtain ⟨prs, us, rel, hl, hl2, h1, h2⟩ := pairs_vals I hp
  have PA := PySem.PairArg.tuple (prog := X.prog) (w := X.w) a (ps.map Value.ref).toArray (fun j => ps.getD j 0) us
  refine PySem.call_dict_pairs (knd := mixKind X.prog X.w) (kvs := prs) PA (I.ok.hd hcalm) ⟨⟨o, n, ho, hc, hd, hdat⟩, by rw [List.size_toArray, List.length_map, hl], fun j k v e => ?_⟩ ⟨by rw [hl, hl2], fun i key v e => ?_⟩ (by rw [hl]; exact hz) fun h' tk hd' kp => ?_
  · obtain ⟨b, e1, e2⟩ := h1 j k v e
    have e3 : ps.getD j 0 = b := by rw [List.getD_eq_getElem?_getD, e1]; rfl
    show _ = some (Value.ref (ps.getD j 0)) ∧ PairAt s.heap (ps.getD j 0) k v
    rw [e3]
    exact ⟨by rw [← Array.getElem?_toList, List.getElem?_map, e1]; rfl, .inl e2⟩
  · exact h2 i key v e
  · have hm : (s.heap.objs.size == sysModules) = false := beq_eq_false_iff_ne.mpr (Nat.ne_of_gt I.big)
    have hlen : (mergeK [] kvs).length ≤ sizeLine := by
      refine Nat.le_trans (length_mergeK kvs []) ?_
      rw [List.length_nil, Nat.zero_add, rel.length, hl2]
      exact hz
    exact ⟨.ref s.heap.objs.size, upd H s.heap.objs.size (.dK (mergeK [] kvs)), I.laid (t' := tk) (fun b o e => kp b o (fun z => by cases z) e) (Nat.le_refl _) (show ObjOk X.prog X.w _ _ _ (.dK (mergeK [] kvs)) from ⟨hlen, hm, merged [] prs, KV.merge rel .nil, hd'⟩), rfl, q _ (I.hok.fresh (Nat.le_refl _))⟩
def gDictOf : List D → Option Z
  | [.tup l] => (pairsD l).map fun ps => .n (.dct (mergeKD [] ps))
  | _ => none
theorem b_dictOf {K : PySem.W.Frag} : FnB K (rDictT K) gDictOf := fun H G xs ds z Q xx r hz k => by
  unfold gDictOf at hz
  split at hz
  · rename_i l
    cases hp : pairsD l with
    | none => rw [hp] at hz; cases hz
    | some ps =>
      rw [hp] at hz
      cases hz
      obtain ⟨v, rfl, r'⟩ := pr1 r
      obtain ⟨a, xs, rfl, h1, r1, _⟩ := r'.tup xx
      obtain ⟨as, kvs, rfl, p1, p2⟩ := pairsD_ok r1 hp
      exact ⟨a, as, kvs, rfl, h1, Paired.up (fun _ _ h => xx.sqt h) p1, fun p hp => k _ _ ⟨p, _, rfl, hp, rfl, .dct (RpK.merge p2 .nil)⟩⟩
  · cases hz

/-! ### d.get(k) -/
def dctD : D → Option (List (Key × D))
  | .dct l => some l
  | _ => none
def wDGet1 (ta tb : TD) : TD := fun ρ Q => ta ρ fun r ρ1 => lk ((con ρ1 r).bind dctD) fun _ => tb ρ1 fun r2 ρ2 => lk ((con ρ2 r).bind dctD) fun l => lk ((con ρ2 r2).bind keyD) fun k => Q (.dat ((lookKD l k).getD .non)) ρ2
theorem Rc.dct {K : PySem.W.Frag} {H G : Hp} {v : V} {d : D} {l : List (Key × D)} (e : Ex G H) (r : Rc K H G v d) (h : dctD d = some l) : ∃ a ks, v = .ref a ∧ H a = some (.dK ks) ∧ RpK K G ks l := by
  cases d <;> cases h
  rcases r with r | ⟨a, h, o, rfl, h1, r, z⟩
  · cases r with | dct h1 h2 => exact ⟨_, _, rfl, e _ _ h1, h2⟩
  · cases r with
    | lst r => cases z
    | ins r => cases z
    | dct r => cases z; exact ⟨a, _, rfl, h1, r⟩
theorem bind_get {α β : Type} {x : Option α} {f : α → Option β} {b : β} (h : x.bind f = some b) : ∃ a, x = some a ∧ f a = some b := by
  cases x with
  | none => cases h
  | some a => exact ⟨a, rfl, h⟩
theorem keyD_rc {K : PySem.W.Frag} {H G : Hp} {v : V} {d : D} {k : Key} (r : Rc K H G v d) (h : keyD d = some k) : v = kV k := by
  rcases r with r | ⟨a, hh, o, rfl, h1, r, rfl⟩
  · exact keyD_rp r h
  · cases o <;> cases h
theorem d_get1D {X : Cx} {b : Bas} {o e : Expr} {ta tb : TD} {apos cpos : Pos} (hu : X.A.units + 1 < cLine) (ho : PD X b o ta) (he : PD X b e tb) (m : M1 X o "get" apos e cpos) : PD X b (.Call (.Attribute o "get" apos) [e] [] cpos) (wDGet1 ta tb) :=
  pe_weak (pe_dget1 hu ho he m) fun σ H Q q => by
    obtain ⟨G, ρ, QD, w, q, k⟩ := q
    refine ⟨G, ρ, _, w, q, fun v H1 G1 r ρ1 w1 m1 q1 z => ?_⟩
    obtain ⟨l, e1, z⟩ := lk_get z
    obtain ⟨d, c1, c2⟩ := bind_get e1
    obtain ⟨a, ks, rfl, h1, _⟩ := (q1.rc w1 c1).dct w1.sub c2
    refine ⟨a, rfl, .inl ⟨ks, .inl h1⟩, G1, ρ1, _, w1, z, fun u H2 G2 r2 ρ2 w2 m2 q2 z => ?_⟩
    obtain ⟨l2, e2, z⟩ := lk_get z
    obtain ⟨key, e3, z⟩ := lk_get z
    obtain ⟨d2, c3, c4⟩ := bind_get e2
    obtain ⟨dk, c5, c6⟩ := bind_get e3
    have rc2 : Rc X.K H2 G2 (.ref a) d2 := (q1.stay m2).rc w2 c3
    obtain ⟨a', ks2, ea, h2, r2'⟩ := rc2.dct w2.sub c4
    cases ea
    obtain rfl := keyD_rc (q2.rc w2 c5) c6
    refine ⟨valV ks2 key, .inl ⟨ks2, key, .inl h2, rfl, rfl⟩, ?_⟩
    rcases RpK.look key r2' with ⟨y1, y2⟩ | ⟨v, d, y1, y2, y3⟩
    · rw [y1]
      rw [y2] at z
      exact k _ H2 G2 (.dat .non) ρ2 w2 (m1.trans m2) .non z
    · rw [y1]
      rw [y2] at z
      exact k _ H2 G2 (.dat d) ρ2 w2 (m1.trans m2) y3 z

/-! ### repr -/
mutual
inductive Dr (K : PySem.W.Frag) (H : Hp) : V → PyData → Prop
  | non : Dr K H .non .none
  | bl (b : Bool) : Dr K H (.bl b) (.bool b)
  | int (i : Int) : Dr K H (.int i) (.int i)
  | str (x : Str) : Dr K H (.str x) (.str x)
  | lst {a : Addr} {xs : List V} {ds : List PyData} : SqL K H a xs → DrAll K H xs ds → Dr K H (.ref a) (.list ds)
  | tup {a : Addr} {xs : List V} {ds : List PyData} : SqT K H a xs → DrAll K H xs ds → Dr K H (.ref a) (.tuple ds)
  | dct0 {a : Addr} : H a = some (.dK []) → Dr K H (.ref a) (.dict [])
inductive DrAll (K : PySem.W.Frag) (H : Hp) : List V → List PyData → Prop
  | nil : DrAll K H [] []
  | cons {v : V} {vs : List V} {d : PyData} {ds : List PyData} : Dr K H v d → DrAll K H vs ds → DrAll K H (v :: vs) (d :: ds)
end
/-- the table of modules is a dict -/
def ModsOk (base : Heap) : Prop := ∃ mm, base.Ns sysModules mm
section
variable {X : Cx} {pins : List (Addr × Obj)} {σ : L2.St} {H : Hp} {s : Shared}
mutual
theorem Dr.reads (I : Inv X pins σ H s) (hM : ModsOk X.base) : ∀ {v : V} {d : PyData} {u : Value}, Dr X.K H v d → RelV v u → ∃ as, Reads s.heap u d as ∧ sysModules ∉ as
  | _, _, _, .non, r => by cases r; exact ⟨_, Reads.none, by simp⟩
  | _, _, _, .bl c, r => by cases r; exact ⟨_, Reads.bool c, by simp⟩
  | _, _, _, .int i, r => by obtain ⟨t, rfl⟩ := r; exact ⟨_, Reads.int i t, by simp⟩
  | _, _, _, .str x, r => by obtain ⟨t, rfl⟩ := r; exact ⟨_, Reads.str x t, by simp⟩
  | _, _, _, .lst hs ha, r => by
    cases r
    obtain ⟨its, rv, ⟨o, n, ho, hc, _, hd⟩, _⟩ := I.list hs
    obtain ⟨as, hr, hn⟩ := Dr.readsAll I hM ha rv
    refine ⟨_, Reads.list ho hc hd hr, fun z => ?_⟩
    rcases List.mem_cons.mp z with e | z
    · obtain ⟨mm, o', es, ep, k1, k2, _⟩ := hM
      have := I.bk _ _ k1
      rw [e, ho] at this
      cases this
      rw [hd] at k2
      cases k2
    · exact hn z
  | _, _, _, .tup hs ha, r => by
    cases r
    obtain ⟨its, rv, ⟨o, ho, hc, n, hd⟩, _⟩ := I.tuple hs
    obtain ⟨as, hr, hn⟩ := Dr.readsAll I hM ha rv
    exact ⟨_, Reads.tuple ho hc hd hr, hn⟩
  | _, _, _, .dct0 hs, r => by
    cases r
    obtain ⟨_, hne, vs, rel, o, es, ep, ho, hex, hdat, _, hp, _⟩ := (show ObjOk X.prog X.w H s.heap _ (.dK []) from I.hok _ _ hs)
    cases rel
    have e0 : es.toList = [] := by
      generalize es.toList = l at hp
      cases hp; rfl
    refine ⟨_, Reads.dict ho hex.1 hdat (kvs := []) (by rw [e0]; exact .nil) (by rw [e0]; exact .nil), fun z => ?_⟩
    rcases List.mem_append.mp z with z | z
    · rcases List.mem_cons.mp z with e | z
      · rw [← e] at hne
        exact absurd hne (by simp)
      · cases z
    · cases z
theorem Dr.readsAll (I : Inv X pins σ H s) (hM : ModsOk X.base) : ∀ {vs : List V} {ds : List PyData} {us : List Value}, DrAll X.K H vs ds → Vals vs us → ∃ as, ReadsAll s.heap us ds as ∧ sysModules ∉ as
  | _, _, _, .nil, r => by cases r; exact ⟨_, .nil, by simp⟩
  | _, _, _, .cons h1 h2, r => by
    cases r with
    | cons r1 r2 =>
      obtain ⟨as, q1, n1⟩ := Dr.reads I hM h1 r1
      obtain ⟨bs, q2, n2⟩ := Dr.readsAll I hM h2 r2
      exact ⟨_, .cons q1 q2, fun z => (List.mem_append.mp z).elim n1 n2⟩
end
end
def rRepr (K : PySem.W.Frag) : List V → Hp → VK → Prop := fun xs H Q => ∃ x d, xs = [x] ∧ Dr K H x d ∧ d.showable = true ∧ d.depth ≤ 60 ∧ d.shown.length ≤ sizeLine ∧ Q (.str d.shown) H
theorem cr_repr {X : Cx} (hM : ModsOk X.base) (hg : X.A.guards = some []) (hu : X.A.units + 64 < cLine) : CallR X (.builtin "repr") (rRepr X.K) := by
  intro pins s σ H xs us Q I r h
  obtain ⟨x, d, rfl, hd, hs, hz, hl, q⟩ := h
  obtain ⟨u, rfl, rx⟩ := vals1 r
  cases hd with
  | non => cases rx; exact PySem.P.repr_of_none ⟨.str _, H, I.tok _, ⟨_, rfl⟩, q⟩
  | bl c => cases rx; exact PySem.P.repr_of_bool ⟨.str _, H, I.tok _, ⟨_, rfl⟩, by cases c <;> exact q⟩
  | int i =>
    obtain ⟨t, rfl⟩ := rx
    exact PySem.P.repr_of_int (of_decide_eq_true (by simpa [PyData.showable] using hs)) ⟨.str _, H, I.tok _, ⟨_, rfl⟩, q⟩
  | str x =>
    obtain ⟨t, rfl⟩ := rx
    exact PySem.P.repr_of_str ⟨.str _, H, I.tok _, ⟨_, rfl⟩, q⟩ hl
  | lst h1 h2 =>
    cases rx
    obtain ⟨as, r1, n1⟩ := Dr.reads I hM (.lst h1 h2) rfl
    exact repr_of_reads' r1 hs (fun _ => n1) hg (by omega) (fun _ _ e => e) (fun h' u tk kp => ⟨.str _, H, I.kept (t' := tk) kp, ⟨_, rfl⟩, q⟩) (hsz := hl)
  | tup h1 h2 =>
    cases rx
    obtain ⟨as, r1, n1⟩ := Dr.reads I hM (.tup h1 h2) rfl
    exact repr_of_reads' r1 hs (fun _ => n1) hg (by omega) (fun _ _ e => e) (fun h' u tk kp => ⟨.str _, H, I.kept (t' := tk) kp, ⟨_, rfl⟩, q⟩) (hsz := hl)
  | dct0 h1 =>
    cases rx
    obtain ⟨as, r1, n1⟩ := Dr.reads I hM (.dct0 h1) rfl
    exact repr_of_reads' r1 hs (fun _ => n1) hg (by omega) (fun _ _ e => e) (fun h' u tk kp => ⟨.str _, H, I.kept (t' := tk) kp, ⟨_, rfl⟩, q⟩) (hsz := hl)
end DL

set_option Elab.async false
set_option maxRecDepth 100000
set_option maxHeartbeats 4000000
/-! DL13: repr of data, what is walked of any kind, calls by promises, empty dict. -/
namespace DL
open PySem PySem.Spec PyProof.Rows L2

mutual
def pyR : D → Option PyData
  | .non => some .none
  | .bl c => some (.bool c)
  | .int i => some (.int i)
  | .str x => some (.str x)
  | .lst l => (pyRs l).map .list
  | .tup l => (pyRs l).map .tuple
  | .dct [] => some (.dict [])
  | .dct (_ :: _) => none
  | .ins _ _ => none
  | .fzl _ => none
  | .wt _ => none
  | .ty _ => none
  | .cls _ => none
def pyRs : List D → Option (List PyData)
  | [] => some []
  | d :: ds => (pyR d).bind fun p => (pyRs ds).map fun ps => p :: ps
end
section
variable {K : PySem.W.Frag} {H G : Hp}
mutual
theorem pyR_dr (e : Ex G H) : ∀ {v : V} {d : D} {p : PyData}, Rp K G v d → pyR d = some p → Dr K H v p
  | _, _, p, .non, h => by cases h; exact .non
  | _, _, p, .bl c, h => by cases h; exact .bl c
  | _, _, p, .int i, h => by cases h; exact .int i
  | _, _, p, .str x, h => by cases h; exact .str x
  | _, _, p, .dct (ds := ds) h1 h2, h => by
    cases h2 with
    | nil =>
      have h : some (PyData.dict []) = some p := by unfold pyR at h; exact h
      cases h
      exact .dct0 (e _ _ h1)
    | cons a b => unfold pyR at h; cases h
  | _, _, p, .ins _ _, h => by unfold pyR at h; cases h
  | _, _, p, .fzl _ _, h => by unfold pyR at h; cases h
  | _, _, p, .wt _ _, h => by unfold pyR at h; cases h
  | _, _, p, .ty _, h => by unfold pyR at h; cases h
  | _, _, p, .cls _, h => by unfold pyR at h; cases h
  | _, _, p, .lst (ds := ds) h1 h2, h => by
    unfold pyR at h
    cases q : pyRs ds with
    | none => rw [q] at h; cases h
    | some ps => rw [q] at h; cases h; exact .lst (SqL.of (e _ _ h1)) (pyRs_dr e h2 q)
  | _, _, p, .tup (ds := ds) h1 h2, h => by
    unfold pyR at h
    cases q : pyRs ds with
    | none => rw [q] at h; cases h
    | some ps => rw [q] at h; cases h; exact .tup (e.sqt h1.1) (pyRs_dr e h2 q)
theorem pyRs_dr (e : Ex G H) : ∀ {v : List V} {d : List D} {p : List PyData}, RpA K G v d → pyRs d = some p → DrAll K H v p
  | _, _, p, .nil, h => by cases h; exact .nil
  | _, _, p, .cons (d := d) (ds := ds) h1 h2, h => by
    unfold pyRs at h
    cases q : pyR d with
    | none => rw [q] at h; cases h
    | some x =>
      rw [q] at h
      have h' : Option.map (fun ps => x :: ps) (pyRs ds) = some p := h
      cases q2 : pyRs ds with
      | none => rw [q2] at h'; cases h'
      | some ps => rw [q2] at h'; cases h'; exact .cons (pyR_dr e h1 q) (pyRs_dr e h2 q2)
end
theorem rc_dr {v : V} {d : D} {p : PyData} (e : Ex G H) (r : Rc K H G v d) (h : pyR d = some p) : Dr K H v p := by
  rcases r with r | ⟨a, hh, o, rfl, h1, r, rfl⟩
  · exact pyR_dr e r h
  · cases r with
    | lst r =>
      rename_i ds
      have h' : (pyRs ds).map PyData.list = some p := by unfold Own.d pyR at h; exact h
      cases q : pyRs ds with
      | none => rw [q] at h'; cases h'
      | some ps => rw [q] at h'; cases h'; exact .lst (SqL.of h1) (pyRs_dr e r q)
    | dct r =>
      cases r with
      | nil =>
        have h : some (PyData.dict []) = some p := by unfold Own.d pyR at h; exact h
        cases h
        exact .dct0 h1
      | cons a b => unfold Own.d pyR at h; cases h
    | ins r => unfold Own.d pyR at h; cases h
end
/-- the text that repr gives -/
def textD (d : D) : Option Str := (pyR d).bind fun p => if p.showable = true ∧ p.depth ≤ 60 ∧ p.shown.length ≤ sizeLine then some p.shown else none
def gRepr : List D → Option Z
  | [d] => (textD d).map fun x => .d (.str x)
  | _ => none
theorem b_repr {K : PySem.W.Frag} : FnB K (rRepr K) gRepr := fun H G xs ds z Q xx r hz k => by
  unfold gRepr at hz
  split at hz
  · rename_i d
    unfold textD at hz
    cases hp : pyR d with
    | none => rw [hp] at hz; cases hz
    | some p =>
      rw [hp] at hz
      have hz : (if p.showable = true ∧ p.depth ≤ 60 ∧ p.shown.length ≤ sizeLine then some p.shown else none).map (fun x => Z.d (.str x)) = some z := hz
      split at hz
      · rename_i hs
        cases hz
        obtain ⟨v, rfl, r'⟩ := pr1 r
        exact ⟨v, p, rfl, rc_dr xx r' hp, hs.1, hs.2.1, hs.2.2, k _ H ⟨rfl, .str _⟩⟩
      · cases hz
  · cases hz

/-! ### what is walked: a list, a tuple -/
def walkD : D → Option (List D)
  | .lst l => some l
  | .fzl l => some l
  | .tup l => some l
  | .wt l => some l
  | _ => none
def iSeq (K : PySem.W.Frag) (tl : TE) : TI := fun σ H R => tl σ H fun x H1 => ∃ a, x = .ref a ∧ (((∃ xs, SqL K H1 a xs) ∧ R (Itl K a) H1) ∨ ((∃ xs, SqT K H1 a xs) ∧ R (Itt K a) H1))
theorem pi_seq {X : Cx} {tg l : Expr} {tl : TE} (hl : PE X l tl) : PI X tg l (iSeq X.K tl) := by
  refine ⟨fun pins s σ H R I h => ?_⟩
  refine thn (hl.run pins s σ H _ I h) fun v s1 ⟨x, H1, I1, r1, q1⟩ => ?_
  obtain ⟨a, e, q1⟩ := q1
  subst e
  cases r1
  rcases q1 with ⟨⟨xs, hq⟩, q⟩ | ⟨⟨xs, hq⟩, q⟩
  · obtain ⟨its, rv, p, hz⟩ := I1.list hq
    refine wpAny_pyIter_list p.isList ?_
    refine ⟨s1.heap.objs.size, [s1.heap.objs.size], _, _, H1, rfl, I1.kept (t' := s1.toks) fun b o e => Heap.get?_push_of_some _ e, turn_list a _, ⟨_, Heap.get?_push_size _ rfl, rfl, rfl⟩, fun b hb => ?_, q⟩
    have e : b = s1.heap.objs.size := by simpa using hb
    subst e
    exact I1.fpOk (Nat.le_refl _) (I1.hok.fresh (Nat.le_refl _))
  · obtain ⟨its, rv, p, hz⟩ := I1.tuple hq
    refine wpAny_pyIter_tuple (show s1.heap.IsTuple a its.toArray from p) ?_
    refine ⟨s1.heap.objs.size, [s1.heap.objs.size], _, _, H1, rfl, I1.kept (t' := s1.toks) fun b o e => Heap.get?_push_of_some _ e, turn_tuple a _, ⟨_, Heap.get?_push_size _ rfl, rfl, rfl⟩, fun b hb => ?_, q⟩
    have e : b = s1.heap.objs.size := by simpa using hb
    subst e
    exact I1.fpOk (Nat.le_refl _) (I1.hok.fresh (Nat.le_refl _))
def wItS (ks : List Nat) (ta : TD) : TID := fun ρ Q => ta ρ fun r ρ1 => lk (frz ks r ρ1) fun p => lk (walkD p.1) fun l => Q l p.2
theorem i_seq {X : Cx} {b : Bas} {ks : List Nat} {tg e : Expr} {ta : TD} (hk : b.kp.map (·.1) = ks) (he : PD X b e ta) : PI X tg e (liftI X.K b (wItS ks ta)) := i_weak (pi_seq he) fun σ H Rr q => by
  obtain ⟨G, ρ, QD, w, q, k⟩ := q
  refine ⟨G, ρ, _, w, q, fun v H1 G1 r ρ1 w1 m1 q1 z => ?_⟩
  obtain ⟨p, e1, z⟩ := lk_get z
  obtain ⟨d, ρ2⟩ := p
  obtain ⟨G2, w2, m2, x2, r2, _⟩ := w1.frz hk m1 q1 e1
  obtain ⟨l, e2, z⟩ := lk_get z
  cases r2 with
  | lst h1 h2 => cases e2; exact ⟨_, rfl, .inl ⟨⟨_, SqL.of (w2.sub _ _ h1)⟩, k _ H1 G2 _ ρ2 w2 m2 (itD_list (SqL.of h1) h2) z⟩⟩
  | fzl h1 h2 => cases e2; exact ⟨_, rfl, .inl ⟨⟨_, w2.sub.sql h1⟩, k _ H1 G2 _ ρ2 w2 m2 (itD_list h1 h2) z⟩⟩
  | tup h1 h2 => cases e2; exact ⟨_, rfl, .inr ⟨⟨_, w2.sub.sqt h1.1⟩, k _ H1 G2 _ ρ2 w2 m2 (itD_tup h1.1 h2) z⟩⟩
  | wt h1 h2 => cases e2; exact ⟨_, rfl, .inr ⟨⟨_, w2.sub.sqt h1⟩, k _ H1 G2 _ ρ2 w2 m2 (itD_tup h1 h2) z⟩⟩
  | _ => cases e2

/-! ### {} -/
def wDct0 : TD := fun ρ Q => Q (.own (.dct [])) ρ
theorem d_dct0 {X : Cx} {b : Bas} {pos : Pos} : PD X b (.Dict [] [] pos) wDct0 := pe_weak pe_dnewK fun σ H Q q => by
  obtain ⟨G, ρ, QD, w, q, k⟩ := q
  exact fun p hp => k _ _ G (.own (.dct [])) ρ (w.new hp) (w.newF hp) ⟨p, _, rfl, upd_same, w.sub.gone hp, w.bas.gone hp, .dct .nil, w.apart hp, hp⟩ q

/-! ### calls by promises, whatever the frame -/
structure KnownP (P : Program) (w : World) (K : PySem.W.Frag) (mg : Str → Option Value) (base : Heap) (k : Nat) (x : Str) (sp : DSp) : Prop where
  ex : ∃ (f : Addr) (fd : FuncData) (ps : List Str), FnG P w K mg base CX0 k f fd ps (toSp K sp) ∧ mg x = some (.ref f) ∧ PySem.W.keepIn K (.ref f) = true ∧ Binds K fd ps []
section
variable {X : Cx} {b : Bas} {k : Nat} {sp : DSp} {x : Str} {p pos : Pos} {e : Expr} {es : List Expr} {t : TAD} {ks : List Nat}
theorem d_callP (hk : b.kp.map (·.1) = ks) (F : KnownP X.prog X.w X.K X.mg X.base k x sp) (room : Room k X.A) (grd : X.A.guards = some []) (hg : Gl X x) (args : PAD X b (e :: es) t)
    (hd : (x == ("__debug__" : Str)) = false := by decide) (hs : starEach (e :: es) X.env = (false, eval e X.env) :: starEach es X.env := by rfl) (hp : (backTo pos (starEach es X.env)).any (·.1) = false := by rfl) :
    PD X b (.Call (.Name x p) (e :: es) [] pos) (wCall ks sp t) := d_call hk ⟨F.ex⟩ room grd hg args hd hs hp
theorem d_callRP (hk : b.kp.map (·.1) = ks) (F : KnownP X.prog X.w X.K X.mg X.base k x sp) (room : Room k X.A) (grd : X.A.guards = some []) (hg : Gl X x) (args : PAD X b (e :: es) t)
    (hd : (x == ("__debug__" : Str)) = false := by decide) (hs : starEach (e :: es) X.env = (false, eval e X.env) :: starEach es X.env := by rfl) (hp : (backTo pos (starEach es X.env)).any (·.1) = false := by rfl) :
    PD X b (.Call (.Name x p) (e :: es) [] pos) (wCallR ks sp t) := d_callR hk ⟨F.ex⟩ room grd hg args hd hs hp
end
end DL

set_option Elab.async false
set_option maxRecDepth 100000
set_option maxHeartbeats 4000000
/-! DL14: names of built-ins, minus. -/
namespace DL
open PySem PySem.Spec PyProof.Rows L2
theorem bt_len : bootBuiltins "len" = some (.builtin "len") := by decide +kernel
theorem bt_abs : bootBuiltins "abs" = some (.builtin "abs") := by decide +kernel
theorem bt_repr : bootBuiltins "repr" = some (.builtin "repr") := by decide +kernel
theorem bt_isinstance : bootBuiltins "isinstance" = some (.builtin "isinstance") := by decide +kernel
theorem bt_int : bootBuiltins "int" = some (.type "int") := by decide +kernel
theorem bt_str : bootBuiltins "str" = some (.type "str") := by decide +kernel
theorem bt_bool : bootBuiltins "bool" = some (.type "bool") := by decide +kernel
theorem bt_list : bootBuiltins "list" = some (.type "list") := by decide +kernel
theorem bt_tuple : bootBuiltins "tuple" = some (.type "tuple") := by decide +kernel
theorem bt_dict : bootBuiltins "dict" = some (.type "dict") := by decide +kernel
section
variable {X : Cx} {b : Bas} {x : Str} {n : String} {pos : Pos}
/-- a built-in type as a value -/
theorem d_tyN (hg : Gl X x) (hm : X.mg x = none) (hv : bootBuiltins x = some (.type n)) (hn : x ≠ "__name__" := by decide) (hd : (x == ("__debug__" : Str)) = false := by decide) : PD X b (.Name x pos) (wC (.ty n)) := d_c (.ty n) (pe_bltn (v := .ty n) hg hm hv rfl hn hd)
end
def gNeg : D → Option Z
  | .int i => some (.d (.int (-i)))
  | _ => none
theorem o_neg {K : PySem.W.Frag} : Op1 K (rU fun i => .int (-i)) gNeg := fun H G x d z Q xx rx hz k => by
  unfold gNeg at hz
  split at hz
  · cases hz
    obtain rfl := rx.int
    exact ⟨_, rfl, k _ H ⟨rfl, .int _⟩⟩
  · cases hz
/-- a comprehension's block, looked at -/
def blkB (N : List Str) (sc scope : Scope) (own : List (Str × Nat)) : Bool := decide (scope.kind = .function ∧ (∀ y ∈ scope.names, scope.names.lookup y.1 = some y.2) ∧ (∀ p ∈ own, N[p.2]? = some p.1) ∧ (∀ y ∈ scope.names, y.2 = .free → sc.names.lookup y.1 = some .cell ∨ sc.names.lookup y.1 = some .free) ∧
  ∀ y ∈ scope.names, y.2 = .local ∨ y.2 = .cell → y.1 ∈ own.map (·.1) ∨ y.1 ∉ N)
theorem blk_ok {N : List Str} {sc scope : Scope} {own : List (Str × Nat)} (h : blkB N sc scope own = true) : BlkOk N sc scope own := by
  have h := of_decide_eq_true h
  exact ⟨h.1, h.2.1, h.2.2.1, h.2.2.2.1, h.2.2.2.2⟩
theorem u1 {k : Nat} {A : Around} (r : Room k A) : A.units + 1 < cLine := by have := r.un; omega
theorem u64 {k : Nat} {A : Around} (r : Room k A) : A.units + 64 < cLine := by have := r.un; omega
theorem u66 {k : Nat} {A : Around} (r : Room k A) : A.units + 66 < cLine := by have := r.un; omega
/-! ### n += e of whole numbers -/
def gAddN : D → D → Option Z := gInt fAdd
def gSubN : D → D → Option Z := gInt fSub
theorem o_addN {K : PySem.W.Frag} : Op2 K (ipI fun i j => i + j) gAddN := op2_int (fun i j d v H Q e hv q => by cases e; cases hv; exact ⟨i, j, rfl, rfl, q⟩) fun i j d e => by cases e; exact ⟨_, rfl⟩
theorem o_subN {K : PySem.W.Frag} : Op2 K (ipI fun i j => i - j) gSubN := op2_int (fun i j d v H Q e hv q => by cases e; cases hv; exact ⟨i, j, rfl, rfl, q⟩) fun i j d e => by cases e; exact ⟨_, rfl⟩
/-! ### comparisons as tests -/
def bolK (Q : Bool → Rho → Prop) : R → Rho → Prop := fun r ρ => match r with
  | .dat (.bl c) => Q c ρ
  | _ => False
def wBl (t : TD) : TTD := fun ρ Q => t ρ (bolK Q)
theorem bl_go {K : PySem.W.Frag} {b : Bas} {t : TD} {σ : L2.St} {H : Hp} {Q : Bool → Hp → Prop} (q : liftT K b (wBl t) σ H Q) : tTest (lift K b t) σ H Q := by
  obtain ⟨G, ρ, QD, w, q, k⟩ := q
  refine ⟨G, ρ, bolK QD, w, q, fun v H1 G1 r ρ1 w1 m1 q1 z => ?_⟩
  unfold bolK at z
  split at z
  · rename_i c
    have q2 : Rp K G1 v (.bl c) := q1
    cases q2
    exact ⟨c, rfl, k c H1 G1 ρ1 w1 m1 z⟩
  · exact z.elim
section
variable {X : Cx} {b : Bas} {ea eb ec : Expr} {ta tb tc : TD} {pos : Pos}
theorem t_cmp {op : CmpOp} {r : R2} {g : D → D → Option Z} (ho : OpR X (compareOp op) r) (hr : Op2 X.K r g) (ha : PD X b ea ta) (hb : PD X b eb tb) (hm : behindInMarks op eb = false) : PTD X b (.Compare ea [op] [eb] pos) (wBl (wOp g ta tb)) :=
  pt_weak (pt_cmpR ho ha hb hm) fun _ _ _ q => op_go hr (bl_go q)
theorem t_chain {op op' : CmpOp} {r r' : R2} {g g' : D → D → Option Z} (ho : OpR X (compareOp op) r) (ho' : OpR X (compareOp op') r') (hg : Op2 X.K r g) (hg' : Op2 X.K r' g') (ha : PD X b ea ta) (hb : PD X b eb tb) (hc : PD X b ec tc)
    (hm : lastMarks [op, op'] [eb, ec] = false := by with_unfolding_all rfl) : PTD X b (.Compare ea [op, op'] [eb, ec] pos) (wBl (wChain g g' ta tb tc)) :=
  pt_weak (pt_chain ho ho' ha hb hc hm) fun _ _ _ q => chain_go hg hg' (bl_go q)
end
end DL

set_option Elab.async false
set_option maxRecDepth 100000
set_option maxHeartbeats 4000000
/-! DL15: how a def's reading keeps its promise; running readings. -/
namespace DL
open PySem PySem.Spec PyProof.Rows L2
def endsF (n : Nat) (QD : R → List Sl → Prop) : EndsD := { nx := fun ρ => QD (.dat .non) (ρ.take n), rt := fun r ρ => match r with | .bor _ => False | r => QD r (ρ.take n) }
/-- what a def of N names computes keeps the promise -/
def PL (N n : Nat) (rd : List Nat → SD) (sp : DSp) : Prop := ∀ args QD ED, sp args QD ED → args.length = n ∧ rd (ixOf 0 args) (endsF n QD) (args ++ List.replicate (N - n) .no)
theorem endsF_nx {n : Nat} {QD : R → List Sl → Prop} {ρ : Rho} : (endsF n QD).nx ρ = QD (.dat .non) (ρ.take n) := rfl
theorem endsF_dat {n : Nat} {QD : R → List Sl → Prop} {ρ : Rho} {d : D} : (endsF n QD).rt (.dat d) ρ = QD (.dat d) (ρ.take n) := rfl
theorem endsF_own {n : Nat} {QD : R → List Sl → Prop} {ρ : Rho} {o : Own} : (endsF n QD).rt (.own o) ρ = QD (.own o) (ρ.take n) := rfl
theorem PL.fn {P : Program} {w : World} {K : PySem.W.Frag} {mg : Str → Option Value} {base : Heap} {k : Nat} {x qual : Str} {st : Stmt} {f : Addr} {fd : FuncData} {N ps : List Str} {sp : DSp} {rd : List Nat → SD} (p : PL N.length ps.length rd sp) (F : Fun K x qual st f fd) (S : FnScope N ps (defScope st))
    (d : ∀ (cdv : Value) (A : Around) (out : List Env) (s0 : Shared) (H : Hp) (b : Bas) (ks : List Nat) (E : XK), Room k (A.deeper (envOfC qual (defScope st) s0.heap.objs.size f cdv)) → (A.deeper (envOfC qual (defScope st) s0.heap.objs.size f cdv)).guards = some [] → b.kp.map (·.1) = ks →
      PSsD (cxOf CX0 P w K mg base N qual (defScope st) f cdv A out s0 H E).nox b (defBody st) (rd ks)) : FnG P w K mg base CX0 (k + 1) f fd ps (toSp K sp) :=
  fnG_ok F S (fun args QD ED h => (p args QD ED h).1) fun cdv A out s0 H b args QD ED E room grd hk h => by
    obtain ⟨h1, h2⟩ := p args QD ED h
    refine ⟨_, d cdv A out s0 H b _ E room grd hk, ?_⟩
    rw [← h1] at h2
    exact h2
theorem KnownP.up {P : Program} {w : World} {K : PySem.W.Frag} {mg : Str → Option Value} {base : Heap} {k : Nat} {x : Str} {sp : DSp} (h : KnownP P w K mg base k x sp) : KnownP P w K mg base k x sp := h

/-! ### items at written places -/
section
variable {α : Type} {a b c d : α} {l : List α}
theorem atI_0 : atI (a :: l) 0 = some a := by
  unfold atI ixN
  rw [if_pos (Int.le_refl 0), if_pos (show (0 : Int) < ((a :: l).length : Int) by rw [List.length_cons]; omega)]
  rfl
theorem atI_1 : atI (a :: b :: l) 1 = some b := by
  unfold atI ixN
  rw [if_pos (by decide), if_pos (show (1 : Int) < ((a :: b :: l).length : Int) by rw [List.length_cons, List.length_cons]; omega)]
  rfl
theorem atI_2 : atI (a :: b :: c :: l) 2 = some c := by
  unfold atI ixN
  rw [if_pos (by decide), if_pos (show (2 : Int) < ((a :: b :: c :: l).length : Int) by rw [List.length_cons, List.length_cons, List.length_cons]; omega)]
  rfl
theorem atI_3 : atI (a :: b :: c :: d :: l) 3 = some d := by
  unfold atI ixN
  rw [if_pos (by decide), if_pos (show (3 : Int) < ((a :: b :: c :: d :: l).length : Int) by rw [List.length_cons, List.length_cons, List.length_cons, List.length_cons]; omega)]
  rfl
theorem atI_nat {i : Int} {j : Nat} (h : i = (j : Nat)) : atI l i = l[j]? := by
  subst h
  unfold atI ixN
  rw [if_pos (by omega)]
  by_cases hl : j < l.length
  · rw [if_pos (by omega)]; rfl
  · rw [if_neg (by omega), List.getElem?_eq_none (by omega)]; rfl
end
theorem lk_eq {α : Type} {x : Option α} {k : α → Prop} {a : α} (e : x = some a) : lk x k = k a := by rw [e]; rfl
/-! ### == at written forms -/
theorem eqB_nil : gEqB (.lst []) (.lst []) = some true := by simp [gEqB, quick, deepEq, pyD, pyDs, PyData.canLay0, PyData.canLayAll0, PyData.depth, PyData.depthAll, PyData.eqv, PyData.eqvAll]
theorem eqB_cons {d : D} {ds : List D} : gEqB (.lst (d :: ds)) (.lst []) = some false := by simp [gEqB, quick]
theorem eqB_tup0 {l : List D} : gEqB (.tup l) (.tup []) = some l.isEmpty := by cases l <;> simp [gEqB, quick]
theorem eqB_int {i j : Int} : gEqB (.int i) (.int j) = some (i == j) := by simp [gEqB, quick, deepEq, pyD, PyData.canLay0, PyData.depth, PyData.eqv]
theorem eqB_non {j : Int} : gEqB .non (.int j) = some false := by simp [gEqB, quick, deepEq, pyD, PyData.canLay0, PyData.depth, PyData.eqv]
theorem eqB_str {x y : Str} : gEqB (.str x) (.str y) = some (x == y) := rfl
theorem eqB_pair {x y : Str} {i j : Int} (hx : PyData.strOk x = true) (hy : PyData.strOk y = true) : gEqB (.tup [.str x, .int i]) (.tup [.str y, .int j]) = some (x == y && i == j) := by
  simp [gEqB, quick, deepEq, pyD, pyDs, PyData.canLay0, PyData.canLayAll0, PyData.depth, PyData.depthAll, PyData.eqv, PyData.eqvAll, hx, hy]
theorem eqA_eq {neg c : Bool} {d e : D} (h : gEqB d e = some c) : gEqA neg d e = some (.d (.bl (neg != c))) := by unfold gEqA; rw [h]; rfl
theorem bne_f {c : Bool} : (false != c) = c := by cases c <;> rfl
theorem bne_t {c : Bool} : (true != c) = !c := by cases c <;> rfl
theorem eqA_nil {neg : Bool} : gEqA neg (.lst []) (.lst []) = some (.d (.bl (neg != true))) := eqA_eq eqB_nil
theorem eqA_cons {neg : Bool} {d : D} {ds : List D} : gEqA neg (.lst (d :: ds)) (.lst []) = some (.d (.bl (neg != false))) := eqA_eq eqB_cons
theorem eqA_tup0 {neg : Bool} {l : List D} : gEqA neg (.tup l) (.tup []) = some (.d (.bl (neg != l.isEmpty))) := eqA_eq eqB_tup0
theorem eqA_int {neg : Bool} {i j : Int} : gEqA neg (.int i) (.int j) = some (.d (.bl (neg != (i == j)))) := eqA_eq eqB_int
theorem eqA_non {neg : Bool} {j : Int} : gEqA neg .non (.int j) = some (.d (.bl (neg != false))) := eqA_eq eqB_non
theorem eqA_l0 {neg : Bool} {l : List D} : gEqA neg (.lst l) (.lst []) = some (.d (.bl (neg != l.isEmpty))) := by cases l with
  | nil => exact eqA_nil
  | cons d ds => exact eqA_cons
theorem atI_mem {α : Type} {l : List α} {i : Int} (h0 : 0 ≤ i) (h1 : i < (l.length : Int)) : ∃ x, x ∈ l ∧ atI l i = some x ∧ l[i.toNat]? = some x := by
  have h2 : i.toNat < l.length := by omega
  have e : l[i.toNat]? = some l[i.toNat] := List.getElem?_eq_getElem h2
  refine ⟨l[i.toNat], List.getElem_mem h2, ?_, e⟩
  rw [atI_nat (j := i.toNat) (by omega)]
  exact e
theorem atI_map {α β : Type} {l : List α} {f : α → β} {i : Int} (h0 : 0 ≤ i) (h1 : i < (l.length : Int)) : ∃ x, x ∈ l ∧ atI (l.map f) i = some (f x) := by
  obtain ⟨y, h2, h3, _⟩ := atI_mem (l := l.map f) h0 (by rw [List.length_map]; exact h1)
  obtain ⟨x, hx, rfl⟩ := List.mem_map.mp h2
  exact ⟨x, hx, h3⟩
theorem sIx_some {n d k : Nat} : HT.sIx n d (some (k : Int)) = min k n := HT.sIx_nat n d k
theorem cutD_to {l : List D} (k : Nat) : cutD l none (some (k : Int)) = l.take k := by
  unfold cutD
  rw [sIx_some]
  show (l.drop 0).take (min k l.length - 0) = _
  rw [List.drop_zero, Nat.sub_zero]
  by_cases h : k ≤ l.length
  · rw [Nat.min_eq_left h]
  · rw [Nat.min_eq_right (by omega), List.take_of_length_le (by omega), List.take_of_length_le (by omega)]
theorem cutD_from {l : List D} (k : Nat) : cutD l (some (k : Int)) none = l.drop k := by
  unfold cutD
  rw [sIx_some]
  show (l.drop (min k l.length)).take (l.length - min k l.length) = _
  by_cases h : k ≤ l.length
  · rw [Nat.min_eq_left h, List.take_of_length_le (by rw [List.length_drop]; omega)]
  · rw [Nat.min_eq_right (by omega), Nat.sub_self, List.take_zero, List.drop_of_length_le (by omega)]
theorem cutD_mid {l : List D} (a b : Nat) : cutD l (some (a : Int)) (some (b : Int)) = (l.drop a).take (b - a) := by
  unfold cutD
  rw [sIx_some, sIx_some]
  by_cases h : a ≤ l.length
  · rw [Nat.min_eq_left h]
    by_cases h2 : b ≤ l.length
    · rw [Nat.min_eq_left h2]
    · rw [Nat.min_eq_right (by omega), List.take_of_length_le (by rw [List.length_drop]; omega), List.take_of_length_le (by rw [List.length_drop]; omega)]
  · rw [Nat.min_eq_right (a := a) (by omega), List.drop_of_length_le (Nat.le_refl _), List.drop_of_length_le (by omega), List.take_nil, List.take_nil]
theorem ixN_nat {n j : Nat} (h : j < n) : ixN n (j : Int) = some j := by
  unfold ixN
  rw [if_pos (by omega), if_pos (by omega)]
  rfl
theorem ixN_int {n : Nat} {i : Int} (h0 : 0 ≤ i) (h : i < (n : Int)) : ixN n i = some i.toNat := by
  unfold ixN
  rw [if_pos h0, if_pos h]
theorem popAt_ok {l : List D} {i : Int} (h0 : 0 ≤ i) (h1 : i < (l.length : Int)) (hz : l.length < 1000000) : ∃ x, l[i.toNat]? = some x ∧ gPopAt l [.int i] = some (l.eraseIdx i.toNat, x) := by
  have h2 : i.toNat < l.length := by omega
  have e : l[i.toNat]? = some l[i.toNat] := List.getElem?_eq_getElem h2
  refine ⟨l[i.toNat], e, ?_⟩
  unfold gPopAt
  dsimp only
  rw [if_pos (by omega)]
  have e2 : seqIndex? i l.length = some i.toNat := (ixN_seq (ixN_int h0 h1)).1
  rw [e2, Option.bind_some, e]
  rfl
theorem pop_ok {l : List D} {d : D} : gPop (l ++ [d]) [] = some (l, d) := by
  unfold gPop
  dsimp only
  rw [List.length_append, List.length_singleton, Nat.add_sub_cancel, List.getElem?_append_right (Nat.le_refl _), Nat.sub_self, List.dropLast_concat]
  rfl
/-! ### tables looked up -/
theorem lookKD_nil {k : Key} : lookKD [] k = none := rfl
theorem lookKD_cons {p : Key × D} {r : List (Key × D)} {k : Key} : lookKD (p :: r) k = if p.1 = k then some p.2 else lookKD r k := by
  unfold lookKD
  rw [List.find?_cons]
  by_cases e : p.1 = k
  · rw [if_pos e, decide_eq_true e]; rfl
  · rw [if_neg e, decide_eq_false e]
theorem lookKD_any (k : Key) : ∀ kvs : List (Key × D), (kvs.any fun kv => decide (kv.1 = k)) = (lookKD kvs k).isSome
  | [] => rfl
  | p :: r => by
    rw [List.any_cons, lookKD_cons, lookKD_any k r]
    by_cases e : p.1 = k
    · rw [if_pos e, decide_eq_true e]; rfl
    · rw [if_neg e, decide_eq_false e, Bool.false_or]
theorem lookKD_map (k j : Key) (y : D) : ∀ kvs : List (Key × D), lookKD (kvs.map fun kv => if kv.1 = k then (kv.1, y) else kv) j = (lookKD kvs j).map fun x => if j = k then y else x
  | [] => rfl
  | p :: r => by
    rw [List.map_cons, lookKD_cons, lookKD_cons, lookKD_map k j y r]
    by_cases e : p.1 = k
    · rw [if_pos e]
      by_cases e2 : p.1 = j
      · rw [if_pos e2, if_pos e2, Option.map_some, if_pos (by rw [← e2]; exact e)]
      · rw [if_neg e2, if_neg e2]
    · rw [if_neg e]
      by_cases e2 : p.1 = j
      · rw [if_pos e2, if_pos e2, Option.map_some, if_neg (by rw [← e2]; exact e)]
      · rw [if_neg e2, if_neg e2]
theorem lookKD_snoc (k j : Key) (y : D) : ∀ kvs : List (Key × D), lookKD (kvs ++ [(k, y)]) j = match lookKD kvs j with
    | some x => some x
    | none => if k = j then some y else none
  | [] => by rw [List.nil_append, lookKD_cons]; rfl
  | p :: r => by
    rw [List.cons_append, lookKD_cons, lookKD_cons, lookKD_snoc k j y r]
    by_cases e : p.1 = j
    · rw [if_pos e, if_pos e]
    · rw [if_neg e, if_neg e]
theorem lookKD_put {kvs : List (Key × D)} {k j : Key} {v : D} : lookKD (putKD kvs k v) j = if k = j then some v else lookKD kvs j := by
  unfold putKD
  rw [lookKD_any]
  by_cases e : k = j
  · subst e
    rw [if_pos rfl]
    cases h : lookKD kvs k with
    | none =>
      rw [if_neg (by simp), lookKD_snoc, h]
      show (if k = k then some v else none) = _
      rw [if_pos rfl]
    | some x => rw [if_pos (by simp), lookKD_map, h, Option.map_some, if_pos rfl]
  · rw [if_neg e]
    split
    · rw [lookKD_map]
      cases lookKD kvs j with
      | none => rfl
      | some x => rw [Option.map_some, if_neg (fun z => e z.symm)]
    · rw [lookKD_snoc]
      cases lookKD kvs j with
      | none => show (if k = j then some v else none) = _; rw [if_neg e]
      | some x => rfl
theorem mergeKD_out {j : Key} : ∀ {ps : List (Key × D)} {kvs : List (Key × D)}, (∀ p ∈ ps, p.1 ≠ j) → lookKD (mergeKD kvs ps) j = lookKD kvs j
  | [], kvs, _ => rfl
  | p :: ps, kvs, h => by
    show lookKD (mergeKD (putKD kvs p.1 p.2) ps) j = _
    rw [mergeKD_out fun q hq => h q (List.mem_cons_of_mem _ hq), lookKD_put, if_neg (h p List.mem_cons_self)]
theorem mergeKD_in {j : Key} {v : D} : ∀ {ps : List (Key × D)} {kvs : List (Key × D)}, (ps.map (·.1)).Nodup → (j, v) ∈ ps → lookKD (mergeKD kvs ps) j = some v
  | [], kvs, _, h => by cases h
  | p :: ps, kvs, nd, h => by
    rw [List.map_cons, List.nodup_cons] at nd
    show lookKD (mergeKD (putKD kvs p.1 p.2) ps) j = _
    rcases List.mem_cons.mp h with e | h
    · subst e
      rw [mergeKD_out fun q hq e => nd.1 (List.mem_map.mpr ⟨q, hq, e⟩), lookKD_put, if_pos rfl]
    · exact mergeKD_in nd.2 h
end DL

set_option Elab.async false
set_option maxRecDepth 100000
set_option maxHeartbeats 4000000
/-! DL16: readings run from the head: every continuation is a named function, so that nothing behind it is looked at before its turn. -/
namespace DL
open PySem PySem.Spec PyProof.Rows L2
section
variable {α : Type} {ρ ρ1 ρ2 ρ3 : Rho} {Q : R → Rho → Prop} {QT : Bool → Rho → Prop} {QA : List R → Rho → Prop} {QI : List D → Rho → Prop} {QH : Rho → Prop} {i n : Nat} {d e : D} {o : Own} {r r1 r2 : R} {rs : List R} {ds : List D} {ks vs is : List Nat} {ta tb tc : TD} {t u : TTD} {tA : TAD} {s s' : SD} {DD : EndsD} {c : Bool} {g : D → D → Option Z} {z : Z} {sp : DSp}
/-- the ends of what stands ahead of t; of a loop's body -/
def seqE (t : SD) (DD : EndsD) : EndsD := { DD with nx := t DD }
def loopE (nx : Rho → Prop) (DD : EndsD) : EndsD := { DD with nx := nx, ct := nx, bk := DD.nx }
theorem seqE_nx : (seqE s DD).nx ρ = s DD ρ := rfl
theorem seqE_rt : (seqE s DD).rt = DD.rt := rfl
theorem seqE_bk : (seqE s DD).bk = DD.bk := rfl
theorem seqE_ct : (seqE s DD).ct = DD.ct := rfl
theorem loopE_nx : (loopE QH DD).nx = QH := rfl
theorem loopE_rt : (loopE QH DD).rt = DD.rt := rfl
theorem loopE_bk : (loopE QH DD).bk = DD.nx := rfl
theorem loopE_ct : (loopE QH DD).ct = QH := rfl
theorem e_seq : wSeq s s' DD ρ = s (seqE s' DD) ρ := rfl
theorem e_next : wNext DD ρ = DD.nx ρ := rfl
theorem e_break : wBreak DD ρ = DD.bk ρ := rfl
theorem e_cont : wCont DD ρ = DD.ct ρ := rfl
theorem e_retN : wRetN DD ρ = DD.rt (.dat .non) ρ := rfl
/-- names -/
def qVar (i : Nat) (ρ : Rho) (Q : R → Rho → Prop) : Option Sl → Prop
  | some (.dat d) => Q (.dat d) ρ
  | some (.own _) => Q (.bor i) ρ
  | _ => False
theorem e_var : wVar i ρ Q = qVar i ρ Q ρ[i]? := by unfold wVar qVar; rfl
theorem q_var_d : qVar i ρ Q (some (.dat d)) = Q (.dat d) ρ := rfl
theorem q_var_o : qVar i ρ Q (some (.own o)) = Q (.bor i) ρ := rfl
theorem e_c : wC d ρ Q = Q (.dat d) ρ := rfl
def conS : Option Sl → Option D
  | some (.own o) => some o.d
  | some (.dat d) => some d
  | _ => none
theorem con_d : con ρ (.dat d) = some d := rfl
theorem con_o : con ρ (.own o) = some o.d := rfl
theorem con_b : con ρ (.bor i) = conS ρ[i]? := by unfold con conS; rfl
theorem conS_d : conS (some (.dat d)) = some d := rfl
theorem conS_o : conS (some (.own o)) = some o.d := rfl
theorem own_l : (Own.lst ds).d = .lst ds := rfl
theorem own_d {l : List (Key × D)} : (Own.dct l).d = .dct l := rfl
theorem own_i {C : Addr} {l : List (Str × D)} : (Own.ins C l).d = .ins C l := rfl
theorem z_d : (Z.d d).r = .dat d := rfl
theorem z_n : (Z.n o).r = .own o := rfl
theorem z_t : (Z.t ds).r = .dat (.tup ds) := rfl
theorem z_w : (Z.w ds).r = .dat (.wt ds) := rfl
theorem sl_d : (R.dat d).sl = .dat d := rfl
theorem sl_o : (R.own o).sl = .own o := rfl
def qFrz (i : Nat) (ρ : Rho) : Option Sl → Option (D × Rho)
  | some (.own o) => some (o.d, ρ.set i (.dat o.d))
  | some (.dat x) => some (x, ρ)
  | _ => none
theorem frz_d : frz ks (.dat d) ρ = some (d, ρ) := rfl
theorem frz_o : frz ks (.own o) ρ = some (o.d, ρ) := rfl
theorem frz_b : frz ks (.bor i) ρ = if i ∈ ks then none else qFrz i ρ ρ[i]? := by unfold frz qFrz; rfl
theorem q_frz_d : qFrz i ρ (some (.dat d)) = some (d, ρ) := rfl
theorem q_frz_o : qFrz i ρ (some (.own o)) = some (o.d, ρ.set i (.dat o.d)) := rfl
def kFz (r : D) (q : List D × Rho) : List D × Rho := (r :: q.1, q.2)
def kFzs (ks : List Nat) (rs : List R) (p : D × Rho) : Option (List D × Rho) := (frzs ks rs p.2).map (kFz p.1)
theorem frzs_nil : frzs ks [] ρ = some ([], ρ) := rfl
theorem frzs_cons : frzs ks (r :: rs) ρ = (frz ks r ρ).bind (kFzs ks rs) := rfl
theorem k_fzs : kFzs ks rs (d, ρ) = (frzs ks rs ρ).map (kFz d) := rfl
theorem k_fz : kFz d (ds, ρ) = (d :: ds, ρ) := rfl
theorem thin_d : thin ks (.dat d) ρ = some (.dat d, ρ) := rfl
theorem thin_o : thin ks (.own o) ρ = some (.own o, ρ) := rfl
def kTh (p : D × Rho) : R × Rho := (.dat p.1, p.2)
theorem thin_b : thin ks (.bor i) ρ = (frz ks (.bor i) ρ).map kTh := rfl
theorem k_th : kTh (d, ρ) = (.dat d, ρ) := rfl
def kTs (r : R) (q : List R × Rho) : List R × Rho := (r :: q.1, q.2)
def kThs (ks : List Nat) (rs : List R) (p : R × Rho) : Option (List R × Rho) := (thins ks rs p.2).map (kTs p.1)
theorem thins_nil : thins ks [] ρ = some ([], ρ) := rfl
theorem thins_cons : thins ks (r :: rs) ρ = (thin ks r ρ).bind (kThs ks rs) := rfl
theorem k_ths : kThs ks rs (r, ρ) = (thins ks rs ρ).map (kTs r) := rfl
theorem k_ts : kTs r (rs, ρ) = (r :: rs, ρ) := rfl
theorem setR_nil : setR [] rs ρ = ρ := by cases rs <;> rfl
theorem setR_cons : setR (i :: is) (r :: rs) ρ = setR is rs (ρ.set i r.sl) := rfl
/-- operations -/
def kE (Q : R → Rho → Prop) (ρ : Rho) (z : Z) : Prop := Q z.r ρ
theorem k_e : kE Q ρ z = Q z.r ρ := rfl
def kOp4 (g : D → D → Option Z) (d1 : D) (Q : R → Rho → Prop) (ρ2 : Rho) (d2 : D) : Prop := lk (g d1 d2) (kE Q ρ2)
def kOp3 (g : D → D → Option Z) (r2 : R) (Q : R → Rho → Prop) (ρ2 : Rho) (d1 : D) : Prop := lk (con ρ2 r2) (kOp4 g d1 Q ρ2)
def kOp2 (g : D → D → Option Z) (r1 : R) (Q : R → Rho → Prop) (r2 : R) (ρ2 : Rho) : Prop := lk (con ρ2 r1) (kOp3 g r2 Q ρ2)
def kOp1 (g : D → D → Option Z) (tb : TD) (Q : R → Rho → Prop) (r1 : R) (ρ1 : Rho) : Prop := tb ρ1 (kOp2 g r1 Q)
theorem e_op : wOp g ta tb ρ Q = ta ρ (kOp1 g tb Q) := rfl
theorem k_op1 : kOp1 g tb Q r1 ρ1 = tb ρ1 (kOp2 g r1 Q) := rfl
theorem k_op2 : kOp2 g r1 Q r2 ρ2 = lk (con ρ2 r1) (kOp3 g r2 Q ρ2) := rfl
theorem k_op3 : kOp3 g r2 Q ρ2 d = lk (con ρ2 r2) (kOp4 g d Q ρ2) := rfl
theorem k_op4 : kOp4 g d Q ρ2 e = lk (g d e) (kE Q ρ2) := rfl
def kUn2 (h : D → Option Z) (Q : R → Rho → Prop) (ρ : Rho) (d : D) : Prop := lk (h d) (kE Q ρ)
def kUn1 (h : D → Option Z) (Q : R → Rho → Prop) (r : R) (ρ : Rho) : Prop := lk (con ρ r) (kUn2 h Q ρ)
theorem e_un {h : D → Option Z} : wUn h ta ρ Q = ta ρ (kUn1 h Q) := rfl
theorem k_un1 {h : D → Option Z} : kUn1 h Q r ρ = lk (con ρ r) (kUn2 h Q ρ) := rfl
theorem k_un2 {h : D → Option Z} : kUn2 h Q ρ d = lk (h d) (kE Q ρ) := rfl
/-- argument lists -/
def kCo2 (r : R) (Q : List R → Rho → Prop) (rs : List R) (ρ : Rho) : Prop := Q (r :: rs) ρ
def kCo1 (tr : TAD) (Q : List R → Rho → Prop) (r : R) (ρ1 : Rho) : Prop := tr ρ1 (kCo2 r Q)
theorem e_nil : wNil ρ QA = QA [] ρ := rfl
theorem e_cons : wCons ta tA ρ QA = ta ρ (kCo1 tA QA) := rfl
theorem k_co1 : kCo1 tA QA r ρ = tA ρ (kCo2 r QA) := rfl
theorem k_co2 : kCo2 r QA rs ρ = QA (r :: rs) ρ := rfl
theorem conL_nil : conL ρ [] = some [] := rfl
def kCl2 (d : D) (ds : List D) : List D := d :: ds
def kCl (ρ : Rho) (rs : List R) (d : D) : Option (List D) := (conL ρ rs).map (kCl2 d)
theorem conL_cons : conL ρ (r :: rs) = (con ρ r).bind (kCl ρ rs) := rfl
theorem k_cl : kCl ρ rs d = (conL ρ rs).map (kCl2 d) := rfl
theorem k_cl2 : kCl2 d ds = d :: ds := rfl
def kB2 (h : List D → Option Z) (Q : R → Rho → Prop) (ρ : Rho) (ds : List D) : Prop := lk (h ds) (kE Q ρ)
def kB1 (h : List D → Option Z) (Q : R → Rho → Prop) (rs : List R) (ρ : Rho) : Prop := lk (conL ρ rs) (kB2 h Q ρ)
theorem e_b {h : List D → Option Z} : wB h tA ρ Q = tA ρ (kB1 h Q) := rfl
theorem k_b1 {h : List D → Option Z} : kB1 h Q rs ρ = lk (conL ρ rs) (kB2 h Q ρ) := rfl
theorem k_b2 {h : List D → Option Z} : kB2 h Q ρ ds = lk (h ds) (kE Q ρ) := rfl
def kTup2 (Q : R → Rho → Prop) (p : List D × Rho) : Prop := p.1.length ≤ sizeLine ∧ Q (.dat (.tup p.1)) p.2
def kTup1 (ks : List Nat) (Q : R → Rho → Prop) (rs : List R) (ρ : Rho) : Prop := lk (frzs ks rs ρ) (kTup2 Q)
theorem e_tup : wTup ks tA ρ Q = tA ρ (kTup1 ks Q) := rfl
theorem k_tup1 : kTup1 ks Q rs ρ = lk (frzs ks rs ρ) (kTup2 Q) := rfl
theorem k_tup2 : kTup2 Q (ds, ρ) = (ds.length ≤ sizeLine ∧ Q (.dat (.tup ds)) ρ) := rfl
def kLst2 (Q : R → Rho → Prop) (p : List D × Rho) : Prop := p.1.length ≤ sizeLine ∧ Q (.own (.lst p.1)) p.2
def kLst1 (ks : List Nat) (Q : R → Rho → Prop) (rs : List R) (ρ : Rho) : Prop := lk (frzs ks rs ρ) (kLst2 Q)
theorem e_lst : wLst ks tA ρ Q = tA ρ (kLst1 ks Q) := rfl
theorem k_lst1 : kLst1 ks Q rs ρ = lk (frzs ks rs ρ) (kLst2 Q) := rfl
theorem k_lst2 : kLst2 Q (ds, ρ) = (ds.length ≤ sizeLine ∧ Q (.own (.lst ds)) ρ) := rfl
theorem e_dct0 : wDct0 ρ Q = Q (.own (.dct [])) ρ := rfl
/-- calls -/
def noX : Xc → List Sl → Prop := fun _ _ => False
def kRetQ (Q : R → Rho → Prop) (ρ : Rho) (r : R) (_ : List Sl) : Prop := Q r ρ
theorem k_ret {a : List Sl} : kRetQ Q ρ r a = Q r ρ := rfl
def kCa2 (sp : DSp) (Q : R → Rho → Prop) (p : List D × Rho) : Prop := sp (p.1.map .dat) (kRetQ Q p.2) noX
def kCa1 (ks : List Nat) (sp : DSp) (Q : R → Rho → Prop) (rs : List R) (ρ : Rho) : Prop := lk (frzs ks rs ρ) (kCa2 sp Q)
theorem e_call : wCall ks sp tA ρ Q = tA ρ (kCa1 ks sp Q) := rfl
theorem k_ca1 : kCa1 ks sp Q rs ρ = lk (frzs ks rs ρ) (kCa2 sp Q) := rfl
theorem k_ca2 : kCa2 sp Q (ds, ρ) = sp (ds.map .dat) (kRetQ Q ρ) noX := rfl
def kRetR (i : Nat) (ρ : Rho) (Q : R → Rho → Prop) (r : R) : List Sl → Prop
  | .own o' :: _ => Q r (ρ.set i (.own o'))
  | _ => False
theorem k_retR {a : List Sl} : kRetR i ρ Q r (.own o :: a) = Q r (ρ.set i (.own o)) := rfl
def qCr3 (i : Nat) (ds : List D) (ρ : Rho) (sp : DSp) (Q : R → Rho → Prop) : Option Sl → Prop
  | some (.own o) => sp (.own o :: ds.map .dat) (kRetR i ρ Q) noX
  | _ => False
def kCr2 (i : Nat) (sp : DSp) (Q : R → Rho → Prop) (p : List D × Rho) : Prop := qCr3 i p.1 p.2 sp Q p.2[i]?
def kCr1 (ks : List Nat) (sp : DSp) (Q : R → Rho → Prop) (rs : List R) (ρ : Rho) : Prop := match rs with
  | .bor i :: rest => lk (frzs ks rest ρ) (kCr2 i sp Q)
  | _ => False
theorem e_callR : wCallR ks sp tA ρ Q = tA ρ (kCr1 ks sp Q) := by
  unfold wCallR
  congr 1
theorem k_cr1 : kCr1 ks sp Q (.bor i :: rs) ρ = lk (frzs ks rs ρ) (kCr2 i sp Q) := rfl
theorem k_cr2 : kCr2 i sp Q (ds, ρ) = qCr3 i ds ρ sp Q ρ[i]? := rfl
theorem k_cr3 : qCr3 i ds ρ sp Q (some (.own o)) = sp (.own o :: ds.map .dat) (kRetR i ρ Q) noX := rfl
/-- tests -/
def kTr3 (Q : Bool → Rho → Prop) (ρ : Rho) (c : Bool) : Prop := Q c ρ
def kTr2 (Q : Bool → Rho → Prop) (ρ : Rho) (d : D) : Prop := lk (truD d) (kTr3 Q ρ)
def kTr1 (Q : Bool → Rho → Prop) (r : R) (ρ : Rho) : Prop := lk (con ρ r) (kTr2 Q ρ)
theorem e_tr : wTr ta ρ QT = ta ρ (kTr1 QT) := rfl
theorem k_tr1 : kTr1 QT r ρ = lk (con ρ r) (kTr2 QT ρ) := rfl
theorem k_tr2 : kTr2 QT ρ d = lk (truD d) (kTr3 QT ρ) := rfl
theorem k_tr3 : kTr3 QT ρ c = QT c ρ := rfl
theorem e_bl : wBl ta ρ QT = ta ρ (bolK QT) := rfl
theorem k_bl : bolK QT (.dat (.bl c)) ρ = QT c ρ := rfl
def kAnd (u : TTD) (Q : Bool → Rho → Prop) (c : Bool) (ρ : Rho) : Prop := if c = true then u ρ Q else Q false ρ
def kOr (u : TTD) (Q : Bool → Rho → Prop) (c : Bool) (ρ : Rho) : Prop := if c = true then Q true ρ else u ρ Q
def kNot (Q : Bool → Rho → Prop) (c : Bool) (ρ : Rho) : Prop := Q (!c) ρ
def kIf (ta tb : TD) (Q : R → Rho → Prop) (c : Bool) (ρ : Rho) : Prop := if c = true then ta ρ Q else tb ρ Q
def kIfS (s s' : SD) (DD : EndsD) (c : Bool) (ρ : Rho) : Prop := if c = true then s DD ρ else s' DD ρ
theorem e_and : wAnd t u ρ QT = t ρ (kAnd u QT) := rfl
theorem k_and : kAnd u QT c ρ = if c = true then u ρ QT else QT false ρ := rfl
theorem e_or : wOr t u ρ QT = t ρ (kOr u QT) := rfl
theorem k_or : kOr u QT c ρ = if c = true then QT true ρ else u ρ QT := rfl
theorem e_not : wNot t ρ QT = t ρ (kNot QT) := rfl
theorem k_not : kNot QT c ρ = QT (!c) ρ := rfl
theorem e_if : wIf t ta tb ρ Q = t ρ (kIf ta tb Q) := rfl
theorem k_if : kIf ta tb Q c ρ = if c = true then ta ρ Q else tb ρ Q := rfl
theorem e_ifS : wIfS t s s' DD ρ = t ρ (kIfS s s' DD) := rfl
theorem k_ifS : kIfS s s' DD c ρ = if c = true then s DD ρ else s' DD ρ := rfl
def kNv2 (Q : R → Rho → Prop) (ρ : Rho) (c : Bool) : Prop := Q (.dat (.bl (!c))) ρ
def kNv1 (Q : R → Rho → Prop) (r : R) (ρ : Rho) : Prop := lk ((con ρ r).bind bD) (kNv2 Q ρ)
theorem e_notV : wNotV ta ρ Q = ta ρ (kNv1 Q) := rfl
theorem k_nv1 : kNv1 Q r ρ = lk ((con ρ r).bind bD) (kNv2 Q ρ) := rfl
theorem k_nv2 : kNv2 Q ρ c = Q (.dat (.bl (!c))) ρ := rfl
def kAv2 (tb : TD) (Q : R → Rho → Prop) (ρ : Rho) (c : Bool) : Prop := if c = true then tb ρ Q else Q (.dat (.bl false)) ρ
def kAv1 (tb : TD) (Q : R → Rho → Prop) (r : R) (ρ : Rho) : Prop := lk ((con ρ r).bind bD) (kAv2 tb Q ρ)
theorem e_andV : wAndV ta tb ρ Q = ta ρ (kAv1 tb Q) := rfl
theorem k_av1 : kAv1 tb Q r ρ = lk ((con ρ r).bind bD) (kAv2 tb Q ρ) := rfl
theorem k_av2 : kAv2 tb Q ρ c = if c = true then tb ρ Q else Q (.dat (.bl false)) ρ := rfl
def kOv2 (tb : TD) (Q : R → Rho → Prop) (ρ : Rho) (c : Bool) : Prop := if c = true then Q (.dat (.bl true)) ρ else tb ρ Q
def kOv1 (tb : TD) (Q : R → Rho → Prop) (r : R) (ρ : Rho) : Prop := lk ((con ρ r).bind bD) (kOv2 tb Q ρ)
theorem e_orV : wOrV ta tb ρ Q = ta ρ (kOv1 tb Q) := rfl
theorem k_ov1 : kOv1 tb Q r ρ = lk ((con ρ r).bind bD) (kOv2 tb Q ρ) := rfl
theorem k_ov2 : kOv2 tb Q ρ c = if c = true then Q (.dat (.bl true)) ρ else tb ρ Q := rfl
theorem bD_bl : bD (.bl c) = some c := rfl
/-- slices -/
def kSl4 (g : D → Option Int → Option Int → Option Z) (lo hi : Option Int) (Q : R → Rho → Prop) (ρ : Rho) (d : D) : Prop := lk (g d lo hi) (kE Q ρ)
def kSl3 (g : D → Option Int → Option Int → Option Z) (r : R) (lo : Option Int) (Q : R → Rho → Prop) (hi : Option Int) (ρ : Rho) : Prop := lk (con ρ r) (kSl4 g lo hi Q ρ)
def kSl2 (g : D → Option Int → Option Int → Option Z) (th : Rho → (Option Int → Rho → Prop) → Prop) (r : R) (Q : R → Rho → Prop) (lo : Option Int) (ρ : Rho) : Prop := th ρ (kSl3 g r lo Q)
def kSl1 (g : D → Option Int → Option Int → Option Z) (tl th : Rho → (Option Int → Rho → Prop) → Prop) (Q : R → Rho → Prop) (r : R) (ρ : Rho) : Prop := tl ρ (kSl2 g th r Q)
theorem e_sl {g : D → Option Int → Option Int → Option Z} {tl th : Rho → (Option Int → Rho → Prop) → Prop} : wSl g ta tl th ρ Q = ta ρ (kSl1 g tl th Q) := rfl
theorem k_sl1 {g : D → Option Int → Option Int → Option Z} {tl th : Rho → (Option Int → Rho → Prop) → Prop} : kSl1 g tl th Q r ρ = tl ρ (kSl2 g th r Q) := rfl
theorem k_sl2 {g : D → Option Int → Option Int → Option Z} {th : Rho → (Option Int → Rho → Prop) → Prop} {lo : Option Int} : kSl2 g th r Q lo ρ = th ρ (kSl3 g r lo Q) := rfl
theorem k_sl3 {g : D → Option Int → Option Int → Option Z} {lo hi : Option Int} : kSl3 g r lo Q hi ρ = lk (con ρ r) (kSl4 g lo hi Q ρ) := rfl
theorem k_sl4 {g : D → Option Int → Option Int → Option Z} {lo hi : Option Int} : kSl4 g lo hi Q ρ d = lk (g d lo hi) (kE Q ρ) := rfl
def kPt2 (Q : Option Int → Rho → Prop) (ρ : Rho) : D → Prop
  | .int i => Q (some i) ρ
  | _ => False
def kPt1 (Q : Option Int → Rho → Prop) (r : R) (ρ : Rho) : Prop := lk (con ρ r) (kPt2 Q ρ)
theorem e_part {Q : Option Int → Rho → Prop} : wPart ta ρ Q = ta ρ (kPt1 Q) := by
  unfold wPart
  congr 1
theorem k_pt1 {Q : Option Int → Rho → Prop} : kPt1 Q r ρ = lk (con ρ r) (kPt2 Q ρ) := rfl
theorem k_pt2 {Q : Option Int → Rho → Prop} {j : Int} : kPt2 Q ρ (.int j) = Q (some j) ρ := rfl
theorem e_noP {Q : Option Int → Rho → Prop} : wNoP ρ Q = Q none ρ := rfl
/-- d.get(k) -/
def kGe4 (l : List (Key × D)) (Q : R → Rho → Prop) (ρ : Rho) (k : Key) : Prop := Q (.dat ((lookKD l k).getD .non)) ρ
def kGe3 (r2 : R) (Q : R → Rho → Prop) (ρ : Rho) (l : List (Key × D)) : Prop := lk ((con ρ r2).bind keyD) (kGe4 l Q ρ)
def kGe2 (r : R) (Q : R → Rho → Prop) (r2 : R) (ρ : Rho) : Prop := lk ((con ρ r).bind dctD) (kGe3 r2 Q ρ)
def kGe1b (tb : TD) (r : R) (Q : R → Rho → Prop) (ρ : Rho) (_ : List (Key × D)) : Prop := tb ρ (kGe2 r Q)
def kGe1 (tb : TD) (Q : R → Rho → Prop) (r : R) (ρ : Rho) : Prop := lk ((con ρ r).bind dctD) (kGe1b tb r Q ρ)
theorem e_dget : wDGet1 ta tb ρ Q = ta ρ (kGe1 tb Q) := rfl
theorem k_ge1 : kGe1 tb Q r ρ = lk ((con ρ r).bind dctD) (kGe1b tb r Q ρ) := rfl
theorem k_ge1b {l : List (Key × D)} : kGe1b tb r Q ρ l = tb ρ (kGe2 r Q) := rfl
theorem k_ge2 : kGe2 r Q r2 ρ = lk ((con ρ r).bind dctD) (kGe3 r2 Q ρ) := rfl
theorem k_ge3 {l : List (Key × D)} : kGe3 r2 Q ρ l = lk ((con ρ r2).bind keyD) (kGe4 l Q ρ) := rfl
theorem k_ge4 {l : List (Key × D)} {k : Key} : kGe4 l Q ρ k = Q (.dat ((lookKD l k).getD .non)) ρ := rfl
theorem dctD_d {l : List (Key × D)} : dctD (.dct l) = some l := rfl
theorem keyD_i {j : Int} : keyD (.int j) = some (.inl j) := rfl
theorem keyD_s {x : Str} : keyD (.str x) = some (.inr x) := rfl
/-- methods, stores -/
def kMu4 (i : Nat) (ρ : Rho) (Q : R → Rho → Prop) (q : List D × D) : Prop := Q (.dat q.2) (ρ.set i (.own (.lst q.1)))
def qMu3 (i : Nat) (h : List D → List D → Option (List D × D)) (ds : List D) (ρ : Rho) (Q : R → Rho → Prop) : Option Sl → Prop
  | some (.own (.lst l)) => lk (h l ds) (kMu4 i ρ Q)
  | _ => False
def kMu2 (i : Nat) (h : List D → List D → Option (List D × D)) (Q : R → Rho → Prop) (p : List D × Rho) : Prop := qMu3 i h p.1 p.2 Q p.2[i]?
def kMu1 (ks : List Nat) (i : Nat) (h : List D → List D → Option (List D × D)) (Q : R → Rho → Prop) (rs : List R) (ρ : Rho) : Prop := lk (frzs ks rs ρ) (kMu2 i h Q)
def qMu0 (ks : List Nat) (i : Nat) (h : List D → List D → Option (List D × D)) (tA : TAD) (ρ : Rho) (Q : R → Rho → Prop) : Option Sl → Prop
  | some (.own (.lst _)) => tA ρ (kMu1 ks i h Q)
  | _ => False
theorem e_mut {h : List D → List D → Option (List D × D)} : wMut ks i h tA ρ Q = qMu0 ks i h tA ρ Q ρ[i]? := by
  unfold wMut qMu0
  cases ρ[i]? with
  | none => rfl
  | some s => cases s with
    | no => rfl
    | dat d => rfl
    | own o => cases o with
      | lst l =>
        show tA _ _ = tA _ _
        congr 1
      | dct l => rfl
      | ins C l => rfl
theorem q_mu0 {h : List D → List D → Option (List D × D)} {l : List D} : qMu0 ks i h tA ρ Q (some (.own (.lst l))) = tA ρ (kMu1 ks i h Q) := rfl
theorem k_mu1 {h : List D → List D → Option (List D × D)} : kMu1 ks i h Q rs ρ = lk (frzs ks rs ρ) (kMu2 i h Q) := rfl
theorem k_mu2 {h : List D → List D → Option (List D × D)} : kMu2 i h Q (ds, ρ) = qMu3 i h ds ρ Q ρ[i]? := rfl
theorem q_mu3 {h : List D → List D → Option (List D × D)} {l : List D} : qMu3 i h ds ρ Q (some (.own (.lst l))) = lk (h l ds) (kMu4 i ρ Q) := rfl
theorem k_mu4 {l : List D} : kMu4 i ρ Q (l, d) = Q (.dat d) (ρ.set i (.own (.lst l))) := rfl
def kPu5 (i : Nat) (d : D) (ρ : Rho) (l : List D) (DD : EndsD) (j : Nat) : Prop := DD.nx (ρ.set i (.own (.lst (l.set j d))))
def qPu4 (i : Nat) (d : D) (ρ : Rho) (DD : EndsD) : D → Option Sl → Prop
  | .int k, some (.own (.lst l)) => lk (ixN l.length k) (kPu5 i d ρ l DD)
  | _, _ => False
def kPu4 (i : Nat) (d : D) (ρ : Rho) (DD : EndsD) (dk : D) : Prop := qPu4 i d ρ DD dk ρ[i]?
def kPu3 (i : Nat) (d : D) (DD : EndsD) (rk : R) (ρ : Rho) : Prop := lk (con ρ rk) (kPu4 i d ρ DD)
def kPu2 (i : Nat) (ti : TD) (DD : EndsD) (p : D × Rho) : Prop := (∃ l0, p.2[i]? = some (.own (.lst l0))) ∧ ti p.2 (kPu3 i p.1 DD)
def kPu1 (ks : List Nat) (i : Nat) (ti : TD) (DD : EndsD) (r : R) (ρ : Rho) : Prop := lk (frz ks r ρ) (kPu2 i ti DD)
theorem e_put : wPut ks i ta tb DD ρ = tb ρ (kPu1 ks i ta DD) := by
  unfold wPut
  congr 1
theorem k_pu1 : kPu1 ks i ta DD r ρ = lk (frz ks r ρ) (kPu2 i ta DD) := rfl
theorem k_pu2 : kPu2 i ta DD (d, ρ) = ((∃ l0, ρ[i]? = some (.own (.lst l0))) ∧ ta ρ (kPu3 i d DD)) := rfl
theorem k_pu3 : kPu3 i d DD r ρ = lk (con ρ r) (kPu4 i d ρ DD) := rfl
theorem k_pu4 : kPu4 i d ρ DD e = qPu4 i d ρ DD e ρ[i]? := rfl
theorem q_pu4 {k : Int} {l : List D} : qPu4 i d ρ DD (.int k) (some (.own (.lst l))) = lk (ixN l.length k) (kPu5 i d ρ l DD) := rfl
theorem k_pu5 {l : List D} {j : Nat} : kPu5 i d ρ l DD j = DD.nx (ρ.set i (.own (.lst (l.set j d)))) := rfl
def kAu3 (ks : List Nat) (i : Nat) (DD : EndsD) (ρ : Rho) (z : Z) : Prop := if i ∈ ks then False else DD.nx (ρ.set i z.r.sl)
def kAu2 (ks : List Nat) (i : Nat) (g : D → D → Option Z) (d0 : D) (DD : EndsD) (ρ : Rho) (d : D) : Prop := lk (g d0 d) (kAu3 ks i DD ρ)
def kAu1 (ks : List Nat) (i : Nat) (g : D → D → Option Z) (d0 : D) (DD : EndsD) (r : R) (ρ : Rho) : Prop := lk (con ρ r) (kAu2 ks i g d0 DD ρ)
def qAu0 (ks : List Nat) (i : Nat) (g : D → D → Option Z) (ta : TD) (DD : EndsD) (ρ : Rho) : Option Sl → Prop
  | some (.dat d0) => ta ρ (kAu1 ks i g d0 DD)
  | _ => False
theorem e_aug : wAug ks i g ta DD ρ = qAu0 ks i g ta DD ρ ρ[i]? := by unfold wAug qAu0; rfl
theorem q_au0 : qAu0 ks i g ta DD ρ (some (.dat d)) = ta ρ (kAu1 ks i g d DD) := rfl
theorem k_au1 : kAu1 ks i g d DD r ρ = lk (con ρ r) (kAu2 ks i g d DD ρ) := rfl
theorem k_au2 : kAu2 ks i g d DD ρ e = lk (g d e) (kAu3 ks i DD ρ) := rfl
theorem k_au3 : kAu3 ks i DD ρ z = if i ∈ ks then False else DD.nx (ρ.set i z.r.sl) := rfl
/-- assignments -/
def kAs2 (i : Nat) (DD : EndsD) (p : R × Rho) : Prop := DD.nx (p.2.set i p.1.sl)
def kAs1 (ks : List Nat) (i : Nat) (DD : EndsD) (r : R) (ρ : Rho) : Prop := if i ∈ ks then False else lk (thin ks r ρ) (kAs2 i DD)
theorem e_asg : wAsg ks i ta DD ρ = ta ρ (kAs1 ks i DD) := rfl
theorem k_as1 : kAs1 ks i DD r ρ = if i ∈ ks then False else lk (thin ks r ρ) (kAs2 i DD) := rfl
theorem k_as2 : kAs2 i DD (r, ρ) = DD.nx (ρ.set i r.sl) := rfl
def kPa2 (is : List Nat) (DD : EndsD) (p : List R × Rho) : Prop := DD.nx (setR is p.1 p.2)
def kPa1 (ks is : List Nat) (DD : EndsD) (rs : List R) (ρ : Rho) : Prop := (∀ i ∈ is, i ∉ ks) ∧ rs.length = is.length ∧ lk (thins ks rs ρ) (kPa2 is DD)
theorem e_par : wPar ks is tA DD ρ = tA ρ (kPa1 ks is DD) := rfl
theorem k_pa1 : kPa1 ks is DD rs ρ = ((∀ i ∈ is, i ∉ ks) ∧ rs.length = is.length ∧ lk (thins ks rs ρ) (kPa2 is DD)) := rfl
theorem k_pa2 : kPa2 is DD (rs, ρ) = DD.nx (setR is rs ρ) := rfl
def kUp2 (g : GD) (DD : EndsD) (p : D × Rho) : Prop := g p.1 p.2 DD.nx
def kUp1 (ks : List Nat) (g : GD) (DD : EndsD) (r : R) (ρ : Rho) : Prop := lk (frz ks r ρ) (kUp2 g DD)
theorem e_unp {g : GD} : wUnp ks ta g DD ρ = ta ρ (kUp1 ks g DD) := rfl
theorem k_up1 {g : GD} : kUp1 ks g DD r ρ = lk (frz ks r ρ) (kUp2 g DD) := rfl
theorem k_up2 {g : GD} : kUp2 g DD (d, ρ) = g d ρ DD.nx := rfl
theorem e_hName : hName ks i d ρ QH = if i ∈ ks then False else QH (ρ.set i (.dat d)) := rfl
theorem e_hNil : hNil [] ρ QH = QH ρ := propext ⟨fun h => h.2, fun h => ⟨rfl, h⟩⟩
def kHc (r : List D → Rho → (Rho → Prop) → Prop) (ds : List D) (QH : Rho → Prop) (ρ : Rho) : Prop := r ds ρ QH
theorem e_hCons {g : GD} {r : List D → Rho → (Rho → Prop) → Prop} : hCons g r (d :: ds) ρ QH = g d ρ (kHc r ds QH) := rfl
theorem k_hc {r : List D → Rho → (Rho → Prop) → Prop} : kHc r ds QH ρ = r ds ρ QH := rfl
theorem e_hTup {r : List D → Rho → (Rho → Prop) → Prop} : hTup n r (.tup ds) ρ QH = (ds.length = n ∧ r ds ρ QH) := rfl
theorem e_hWt {r : List D → Rho → (Rho → Prop) → Prop} : hTup n r (.wt ds) ρ QH = (ds.length = n ∧ r ds ρ QH) := rfl
def kDr (DD : EndsD) (_ : R) (ρ : Rho) : Prop := DD.nx ρ
theorem e_drop : wDrop ta DD ρ = ta ρ (kDr DD) := rfl
theorem k_dr : kDr DD r ρ = DD.nx ρ := rfl
def qOut (i : Nat) (ρ : Rho) (Q : R → Rho → Prop) : Option Sl → Prop
  | some (.own o) => Q (.own o) (ρ.set i .no)
  | some (.dat d) => Q (.dat d) ρ
  | _ => False
def kRt (ks : List Nat) (Q : R → Rho → Prop) (r : R) (ρ : Rho) : Prop := outR ks r ρ Q
theorem e_ret : wRet ks ta DD ρ = ta ρ (kRt ks DD.rt) := rfl
theorem k_rt_d : kRt ks Q (.dat d) ρ = Q (.dat d) ρ := rfl
theorem k_rt_o : kRt ks Q (.own o) ρ = Q (.own o) ρ := rfl
theorem k_rt_b : kRt ks Q (.bor i) ρ = if i ∈ ks then False else qOut i ρ Q ρ[i]? := by unfold kRt outR qOut; rfl
theorem q_out_o : qOut i ρ Q (some (.own o)) = Q (.own o) (ρ.set i .no) := rfl
theorem q_out_d : qOut i ρ Q (some (.dat d)) = Q (.dat d) ρ := rfl
/-- loops -/
def kFo2 (g : GD) (sb : SD) (DD : EndsD) (ds : List D) (ρ : Rho) : Prop := sb (loopE (forL g sb DD ds) DD) ρ
theorem forL_nil {g : GD} : forL g s DD [] ρ = DD.nx ρ := rfl
theorem forL_cons {g : GD} : forL g s DD (d :: ds) ρ = g d ρ (kFo2 g s DD ds) := rfl
theorem k_fo2 {g : GD} : kFo2 g s DD ds ρ = s (loopE (forL g s DD ds) DD) ρ := rfl
def kFo1 (g : GD) (sb : SD) (DD : EndsD) (ds : List D) (ρ : Rho) : Prop := forL g sb DD ds ρ
theorem e_for {ti : TID} {g : GD} : wFor ti g s DD ρ = ti ρ (kFo1 g s DD) := rfl
theorem k_fo1 {g : GD} : kFo1 g s DD ds ρ = forL g s DD ds ρ := rfl
def kWh (t : TTD) (sb : SD) (DD : EndsD) (n : Nat) (c : Bool) (ρ : Rho) : Prop := if c = true then sb (loopE (whileN t sb DD n) DD) ρ else DD.nx ρ
theorem whileN_succ : whileN t s DD (n + 1) ρ = t ρ (kWh t s DD n) := rfl
theorem k_wh : kWh t s DD n c ρ = if c = true then s (loopE (whileN t s DD n) DD) ρ else DD.nx ρ := rfl
theorem e_while : wWhile t s DD ρ = ∃ n, whileN t s DD n ρ := rfl
def kIt3 (Q : List D → Rho → Prop) (ρ : Rho) (l : List D) : Prop := Q l ρ
def kIt2 (Q : List D → Rho → Prop) (p : D × Rho) : Prop := lk (walkD p.1) (kIt3 Q p.2)
def kIt1 (ks : List Nat) (Q : List D → Rho → Prop) (r : R) (ρ : Rho) : Prop := lk (frz ks r ρ) (kIt2 Q)
theorem e_itS : wItS ks ta ρ QI = ta ρ (kIt1 ks QI) := rfl
theorem k_it1 : kIt1 ks QI r ρ = lk (frz ks r ρ) (kIt2 QI) := rfl
theorem k_it2 : kIt2 QI (d, ρ) = lk (walkD d) (kIt3 QI ρ) := rfl
theorem k_it3 : kIt3 QI ρ ds = QI ds ρ := rfl
theorem walk_l : walkD (.lst ds) = some ds := rfl
theorem walk_f : walkD (.fzl ds) = some ds := rfl
theorem walk_t : walkD (.tup ds) = some ds := rfl
def rangeD (j : Int) : List D := (List.range j.toNat).map fun n => .int (n : Nat)
def range2D (i j : Int) : List D := (List.range (j - i).toNat).map fun n => .int (i + (n : Nat))
def kR12 (Q : List D → Rho → Prop) (ρ : Rho) : List D → Prop
  | [.int j] => -(2 ^ 62) ≤ j ∧ j < 2 ^ 62 ∧ Q (rangeD j) ρ
  | _ => False
def kR11 (Q : List D → Rho → Prop) (rs : List R) (ρ : Rho) : Prop := lk (conL ρ rs) (kR12 Q ρ)
theorem e_itR1 : wItR1 tA ρ QI = tA ρ (kR11 QI) := by
  unfold wItR1
  congr 1
theorem k_r11 : kR11 QI rs ρ = lk (conL ρ rs) (kR12 QI ρ) := rfl
theorem k_r12 {j : Int} : kR12 QI ρ [.int j] = (-(2 ^ 62) ≤ j ∧ j < 2 ^ 62 ∧ QI (rangeD j) ρ) := rfl
def kR22 (Q : List D → Rho → Prop) (ρ : Rho) : List D → Prop
  | [.int i, .int j] => (-(2 ^ 62) ≤ i ∧ i < 2 ^ 62 ∧ -(2 ^ 62) ≤ j ∧ j < 2 ^ 62) ∧ Q (range2D i j) ρ
  | _ => False
def kR21 (Q : List D → Rho → Prop) (rs : List R) (ρ : Rho) : Prop := lk (conL ρ rs) (kR22 Q ρ)
theorem e_itR2 : wItR2 tA ρ QI = tA ρ (kR21 QI) := by
  unfold wItR2
  congr 1
theorem k_r21 : kR21 QI rs ρ = lk (conL ρ rs) (kR22 QI ρ) := rfl
theorem k_r22 {i j : Int} : kR22 QI ρ [.int i, .int j] = ((-(2 ^ 62) ≤ i ∧ i < 2 ^ 62 ∧ -(2 ^ 62) ≤ j ∧ j < 2 ^ 62) ∧ QI (range2D i j) ρ) := rfl
def kEn3 (Q : List D → Rho → Prop) (ρ : Rho) (l : List D) : Prop := Q (enumD 0 l) ρ
def kEn2 (Q : List D → Rho → Prop) (p : List D × Rho) : Prop := match p.1 with
  | [x] => lk (listD x) (kEn3 Q p.2)
  | _ => False
def kEn1 (ks : List Nat) (Q : List D → Rho → Prop) (rs : List R) (ρ : Rho) : Prop := lk (frzs ks rs ρ) (kEn2 Q)
theorem e_itE : wItE ks tA ρ QI = tA ρ (kEn1 ks QI) := by
  unfold wItE
  congr 1
theorem k_en1 : kEn1 ks QI rs ρ = lk (frzs ks rs ρ) (kEn2 QI) := rfl
theorem k_en2 : kEn2 QI ([d], ρ) = lk (listD d) (kEn3 QI ρ) := rfl
theorem k_en3 : kEn3 QI ρ ds = QI (enumD 0 ds) ρ := rfl
theorem list_l : listD (.lst ds) = some ds := rfl
theorem list_f : listD (.fzl ds) = some ds := rfl
/-- comprehensions -/
def kLcQ (vs : List Nat) (ρ1 : Rho) (Q : R → Rho → Prop) (acc : List D) (ρ2 : Rho) : Prop := Q (.own (.lst acc)) (unw vs ρ1 ρ2)
def kLc (ks : List Nat) (g : GD) (tt : TTD) (te : TD) (vs : List Nat) (Q : R → Rho → Prop) (ds : List D) (ρ1 : Rho) : Prop := (∀ v ∈ vs, v ∉ ks ∧ ∀ o, ρ1[v]? ≠ some (.own o)) ∧ compL ks g tt te vs ds [] (wipR ρ1 vs) (kLcQ vs ρ1 Q)
theorem e_lc {ti : TID} {g : GD} : wLc ks ti g t ta vs ρ Q = ti ρ (kLc ks g t ta vs Q) := rfl
theorem k_lc {g : GD} : kLc ks g t ta vs Q ds ρ = ((∀ v ∈ vs, v ∉ ks ∧ ∀ o, ρ[v]? ≠ some (.own o)) ∧ compL ks g t ta vs ds [] (wipR ρ vs) (kLcQ vs ρ Q)) := rfl
theorem k_lcQ : kLcQ vs ρ1 Q ds ρ2 = Q (.own (.lst ds)) (unw vs ρ1 ρ2) := rfl
def kC4 (ks : List Nat) (g : GD) (tt : TTD) (te : TD) (vs : List Nat) (ds acc : List D) (Q : List D → Rho → Prop) (p : D × Rho) : Prop := acc.length < sizeLine ∧ compL ks g tt te vs ds (acc ++ [p.1]) (wipR p.2 vs) Q
def kC3 (ks : List Nat) (g : GD) (tt : TTD) (te : TD) (vs : List Nat) (ds acc : List D) (Q : List D → Rho → Prop) (r : R) (ρ : Rho) : Prop := lk (frz ks r ρ) (kC4 ks g tt te vs ds acc Q)
def kC2 (ks : List Nat) (g : GD) (tt : TTD) (te : TD) (vs : List Nat) (ds acc : List D) (Q : List D → Rho → Prop) (c : Bool) (ρ : Rho) : Prop := if c = true then te ρ (kC3 ks g tt te vs ds acc Q) else compL ks g tt te vs ds acc (wipR ρ vs) Q
def kC1 (ks : List Nat) (g : GD) (tt : TTD) (te : TD) (vs : List Nat) (ds acc : List D) (Q : List D → Rho → Prop) (ρ : Rho) : Prop := tt ρ (kC2 ks g tt te vs ds acc Q)
theorem compL_nil {g : GD} {acc : List D} : compL ks g t ta vs [] acc ρ QI = QI acc ρ := rfl
theorem compL_cons {g : GD} {acc : List D} : compL ks g t ta vs (d :: ds) acc ρ QI = g d ρ (kC1 ks g t ta vs ds acc QI) := rfl
theorem k_c1 {g : GD} {acc : List D} : kC1 ks g t ta vs ds acc QI ρ = t ρ (kC2 ks g t ta vs ds acc QI) := rfl
theorem k_c2 {g : GD} {acc : List D} : kC2 ks g t ta vs ds acc QI c ρ = if c = true then ta ρ (kC3 ks g t ta vs ds acc QI) else compL ks g t ta vs ds acc (wipR ρ vs) QI := rfl
theorem k_c3 {g : GD} {acc : List D} : kC3 ks g t ta vs ds acc QI r ρ = lk (frz ks r ρ) (kC4 ks g t ta vs ds acc QI) := rfl
theorem k_c4 {g : GD} {acc : List D} : kC4 ks g t ta vs ds acc QI (d, ρ) = (acc.length < sizeLine ∧ compL ks g t ta vs ds (acc ++ [d]) (wipR ρ vs) QI) := rfl
theorem e_yes : wYes ρ QT = QT true ρ := rfl
theorem wip_nil : wipR ρ [] = ρ := rfl
theorem wip_cons : wipR ρ (i :: is) = (wipR ρ is).set i .no := rfl
theorem unw_nil : unw [] ρ1 ρ2 = ρ2 := rfl
theorem unw_cons : unw (i :: is) ρ1 ρ2 = (unw is ρ1 ρ2).set i ((ρ1[i]?).getD .no) := rfl
end

/-! ### operations at written forms -/
section
variable {i j k : Int} {x y : Str} {l m : List D} {d : D} {c : Bool} {lo hi : Option Int}
theorem g_int {f : Int → Int → Option D} : gInt f (.int i) (.int j) = (f i j).map .d := rfl
theorem f_add : fAdd i j = some (.int (i + j)) := rfl
theorem f_sub : fSub i j = some (.int (i - j)) := rfl
theorem f_mul : fMul i j = if i.natAbs.log2 + j.natAbs.log2 < 1000000 then some (.int (i * j)) else none := rfl
theorem f_div : fDiv i j = if 0 < j ∧ j.natAbs.log2 < 9000 then some (.int (i / j)) else none := rfl
theorem f_mod : fMod i j = if 0 < j then some (.int (i % j)) else none := rfl
theorem f_pow : fPow i j = if 0 ≤ j ∧ j ≤ 1000000 ∧ i.natAbs < 2 ^ 64 then some (.int (i ^ j.toNat)) else none := rfl
theorem f_lt : fLt i j = some (.bl (decide (i < j))) := rfl
theorem f_le : fLe i j = some (.bl (decide (i ≤ j))) := rfl
theorem f_gt : fGt i j = some (.bl (decide (j < i))) := rfl
theorem f_ge : fGe i j = some (.bl (decide (j ≤ i))) := rfl
theorem add_i : gAdd (.int i) (.int j) = some (.d (.int (i + j))) := rfl
theorem add_s : gAdd (.str x) (.str y) = if x.length + y.length ≤ sizeLine then some (.d (.str (x ++ y))) else none := rfl
theorem add_l : gAdd (.lst l) (.lst m) = if l.length + m.length ≤ sizeLine then some (.n (.lst (l ++ m))) else none := rfl
theorem add_t : gAdd (.tup l) (.tup m) = if l.length + m.length ≤ sizeLine then some (.t (l ++ m)) else none := rfl
theorem mul_i : gMul (.int i) (.int j) = (fMul i j).map .d := rfl
theorem mul_l : gMul (.lst l) (.int k) = if -(2 ^ 63) ≤ k ∧ k < 2 ^ 63 ∧ l.length * k.toNat ≤ sizeLine then some (.n (.lst (List.replicate k.toNat l).flatten)) else none := rfl
theorem mul_t : gMul (.tup l) (.int k) = if -(2 ^ 63) ≤ k ∧ k ≤ 1000 ∧ l.length ≤ 1000 then some (.t (List.replicate k.toNat l).flatten) else none := rfl
theorem neg_i : gNeg (.int i) = some (.d (.int (-i))) := rfl
theorem ix_l : gIx (.lst l) (.int i) = (atI l i).map .d := rfl
theorem ix_t : gIx (.tup l) (.int i) = (atI l i).map .d := rfl
theorem sl_l : gSl (.lst l) lo hi = some (.n (.lst (cutD l lo hi))) := rfl
theorem sl_f : gSl (.fzl l) lo hi = some (.n (.lst (cutD l lo hi))) := rfl
theorem sl_t : gSl (.tup l) lo hi = some (.t (cutD l lo hi)) := rfl
theorem len_l : gLen [.lst l] = some (.d (.int l.length)) := rfl
theorem len_f : gLen [.fzl l] = some (.d (.int l.length)) := rfl
theorem len_t : gLen [.tup l] = some (.d (.int l.length)) := rfl
theorem len_s : gLen [.str x] = if x.length ≤ sizeLine then some (.d (.int x.length)) else none := rfl
theorem abs_i : gAbs [.int i] = some (.d (.int (if i < 0 then -i else i))) := rfl
theorem int_i : gIntOf [.int i] = some (.d (.int i)) := rfl
theorem lof_l : gListOf [.lst l] = some (.n (.lst l)) := rfl
theorem lof_f : gListOf [.fzl l] = some (.n (.lst l)) := rfl
theorem lof_t : gListOf [.tup l] = some (.n (.lst l)) := rfl
theorem tof_l : gTupOf [.lst l] = some (.t l) := rfl
theorem tof_f : gTupOf [.fzl l] = some (.t l) := rfl
theorem tof_t : gTupOf [.tup l] = some (.t l) := rfl
theorem dof_t : gDictOf [.tup l] = (pairsD l).map fun ps => .n (.dct (mergeKD [] ps)) := rfl
theorem app_l : gAppend l [d] = if l.length < sizeLine then some (l ++ [d], .non) else none := rfl
theorem pop_l : gPop l [] = (l[l.length - 1]?).map fun d => (l.dropLast, d) := rfl
theorem popAt_l : gPopAt l [.int i] = if -(2 ^ 63) ≤ i ∧ i < 2 ^ 63 then (seqIndex? i l.length).bind fun k => (l[k]?).map fun d => (l.eraseIdx k, d) else none := rfl
theorem ext_t : gExtend l [.tup m] = if l.length + m.length ≤ sizeLine then some (l ++ m, .non) else none := rfl
theorem ext_l : gExtend l [.lst m] = if l.length + m.length ≤ sizeLine then some (l ++ m, .non) else none := rfl
theorem tru_b : truD (.bl c) = some c := rfl
theorem tru_i : truD (.int i) = some (i != 0) := rfl
theorem tru_l : truD (.lst l) = some (!l.isEmpty) := rfl
theorem tru_t : truD (.tup l) = some (!l.isEmpty) := rfl
theorem tru_n : truD .non = some false := rfl
theorem augN : gAddN (.int i) (.int j) = some (.d (.int (i + j))) := rfl
theorem subN : gSubN (.int i) (.int j) = some (.d (.int (i - j))) := rfl
theorem is_bl {a : Bool} {neg : Bool} : gIs neg (.bl a) (.bl c) = some (.d (.bl (neg != decide (a = c)))) := rfl
theorem is_non {neg : Bool} : gIs neg d .non = some (.d (.bl (neg != nonD d))) := rfl
theorem ixN4_0 : ixN 4 0 = some 0 := rfl
theorem ixN4_1 : ixN 4 1 = some 1 := rfl
theorem ixN4_2 : ixN 4 2 = some 2 := rfl
theorem ixN4_3 : ixN 4 3 = some 3 := rfl
end
end DL

set_option Elab.async false
set_option maxRecDepth 100000
set_option maxHeartbeats 4000000
/-! DL17: module constants, texts in texts, signs of a text in turn, all, min, max, clear, count. -/
namespace DL
open PySem PySem.Spec PyProof.Rows L2
section
variable {X : Cx} {b : Bas} {x : Str} {pos : Pos}
/-- a module's constant -/
theorem d_globI {i : Int} {t : Tok} (hg : Gl X x) (hm : X.mg x = some (.int i t)) (hd : (x == ("__debug__" : Str)) = false := by decide) : PD X b (.Name x pos) (wC (.int i)) := d_c (.int i) (pe_glob (v := .int i) hg hm ⟨t, rfl⟩ hd)
theorem d_globS {z : Str} {t : Tok} (hg : Gl X x) (hm : X.mg x = some (.str z t)) (hd : (x == ("__debug__" : Str)) = false := by decide) : PD X b (.Name x pos) (wC (.str z)) := d_c (.str z) (pe_glob (v := .str z) hg hm ⟨t, rfl⟩ hd)
end

/-! ### in of texts, lists, tuples -/
def gInA (neg : Bool) (d y : D) : Option Z := match d, y with
  | .str i, .str j => some (.d (.bl (neg != !(Builtin.Str.occurrences j i 0 j.length 1).isEmpty)))
  | d, y => gIn neg d y
def rInS (neg : Bool) : R2 := fun x y H Q => ∃ i j, x = .str i ∧ y = .str j ∧ Q (.bl (neg != !(Builtin.Str.occurrences j i 0 j.length 1).isEmpty)) H
def rInA (K : PySem.W.Frag) (neg : Bool) : R2 := fun x y H Q => rInS neg x y H Q ∨ rInP K neg x y H Q
section
variable {X : Cx}
theorem op_inSt : OpR X (compareOp .In) (rInS false) := by
  intro pins s σ H x y v u Q I rx ry h
  obtain ⟨i, j, e1, e2, q⟩ := h
  exact op_in_str pins s σ H x y v u Q I rx ry ⟨i, j, e1, e2, by rw [Bool.false_bne] at q; exact q⟩
theorem op_notInSt : OpR X (compareOp .NotIn) (rInS true) := by
  intro pins s σ H x y v u Q I rx ry h
  obtain ⟨i, j, e1, e2, q⟩ := h
  exact op_notIn_str pins s σ H x y v u Q I rx ry ⟨i, j, e1, e2, by rw [Bool.true_bne] at q; exact q⟩
theorem op_inA (hu : X.A.units + 66 < cLine) : OpR X (compareOp .In) (rInA X.K false) := op_inSt.or (op_inP hu)
theorem op_notInA (hu : X.A.units + 66 < cLine) : OpR X (compareOp .NotIn) (rInA X.K true) := op_notInSt.or (op_notInP hu)
end
theorem o_inA {K : PySem.W.Frag} {neg : Bool} : Op2 K (rInA K neg) (gInA neg) := fun H G x y d e z Q xx rx ry hz k => by
  unfold gInA at hz
  split at hz
  · rename_i i j
    cases hz
    exact .inl ⟨i, j, rx.str, ry.str, k _ H ⟨rfl, .bl _⟩⟩
  · exact .inr (o_in H G x y d e z Q xx rx ry hz k)

/-! ### the signs of a text -/
def signsD (x : Str) : List D := x.cps.toList.map fun c => .str ⟨#[c]⟩
theorem itD_str {K : PySem.W.Frag} {G : Hp} (x : Str) : ItD K (Its x) (signsD x) G := fun i H G1 x1 x2 => by
  refine ⟨fun d e => ?_, fun hl => by rw [signsD, List.length_map, Array.length_toList] at hl; exact hl⟩
  rw [signsD, List.getElem?_map] at e
  cases q : x.cps.toList[i]? with
  | none => rw [q] at e; cases e
  | some c =>
    rw [q] at e
    cases e
    have q' : x.cps[i]? = some c := by rw [← q]; simp
    refine ⟨?_, fun v H' y => ?_⟩
    · exact (Array.getElem?_eq_some_iff.mp q').1
    · obtain ⟨rfl, c', h1, rfl⟩ := y
      rw [q'] at h1
      cases h1
      exact ⟨.d (.str ⟨#[c]⟩), rfl, rfl, .str _⟩
def wItT2 (ta : TD) : TID := fun ρ Q => ta ρ fun r ρ1 => lk (con ρ1 r) fun d => match d with
  | .str x => Q (signsD x) ρ1
  | _ => False
theorem i_str {X : Cx} {b : Bas} {tg e : Expr} {ta : TD} (he : PD X b e ta) : PI X tg e (liftI X.K b (wItT2 ta)) := i_weak (pi_str he) fun σ H Rr q => by
  obtain ⟨G, ρ, QD, w, q, k⟩ := q
  refine ⟨G, ρ, _, w, q, fun v H1 G1 r ρ1 w1 m1 q1 z => ?_⟩
  obtain ⟨d, e1, z⟩ := lk_get z
  have rc := q1.rc w1 e1
  cases d <;> try exact z.elim
  rename_i x
  exact ⟨x, rc.str, k _ H1 G1 _ ρ1 w1 m1 (itD_str x) z⟩

/-! ### all, min, max; clear, count -/
def blsD : List D → Option (List Bool)
  | [] => some []
  | .bl c :: l => (blsD l).map (c :: ·)
  | _ => none
def intsD : List D → Option (List Int)
  | [] => some []
  | .int i :: l => (intsD l).map (i :: ·)
  | _ => none
section
variable {K : PySem.W.Frag} {G : Hp}
theorem blsD_rp : ∀ {xs : List V} {ds : List D} {bs : List Bool}, RpA K G xs ds → blsD ds = some bs → xs = bs.map V.bl
  | _, _, bs, .nil, h => by cases h; rfl
  | _, _, bs, .cons (d := d) (ds := l) h r, e => by
    cases d with
    | bl c =>
      cases h
      have e : (blsD l).map (c :: ·) = some bs := e
      cases q : blsD l with
      | none => rw [q] at e; cases e
      | some cs => rw [q] at e; cases e; rw [blsD_rp r q]; rfl
    | _ => cases e
theorem intsD_rp : ∀ {xs : List V} {ds : List D} {bs : List Int}, RpA K G xs ds → intsD ds = some bs → xs = bs.map V.int
  | _, _, bs, .nil, h => by cases h; rfl
  | _, _, bs, .cons (d := d) (ds := l) h r, e => by
    cases d with
    | int c =>
      cases h
      have e : (intsD l).map (c :: ·) = some bs := e
      cases q : intsD l with
      | none => rw [q] at e; cases e
      | some cs => rw [q] at e; cases e; rw [intsD_rp r q]; rfl
    | _ => cases e
end
def maxI : Int → List Int → Int
  | i, [] => i
  | i, j :: l => maxI (if j > i then j else i) l
def minI : Int → List Int → Int
  | i, [] => i
  | i, j :: l => minI (if j < i then j else i) l
theorem maxI_ge : ∀ (l : List Int) (i : Int), i ≤ maxI i l ∧ ∀ y ∈ l, y ≤ maxI i l
  | [], i => ⟨Int.le_refl i, fun y h => nomatch h⟩
  | j :: l, i => by
    have h := maxI_ge l (if j > i then j else i)
    refine ⟨?_, fun y hy => ?_⟩
    · refine Int.le_trans ?_ h.1
      split <;> omega
    · rcases List.mem_cons.mp hy with rfl | hy
      · refine Int.le_trans ?_ h.1
        split <;> omega
      · exact h.2 y hy
theorem maxI_mem : ∀ (l : List Int) (i : Int), maxI i l ∈ i :: l
  | [], i => List.mem_cons_self ..
  | j :: l, i => by
    have h := maxI_mem l (if j > i then j else i)
    show maxI (if j > i then j else i) l ∈ _
    rcases List.mem_cons.mp h with e | e
    · rw [e]
      split
      · exact List.mem_cons_of_mem _ (List.mem_cons_self ..)
      · exact List.mem_cons_self ..
    · exact List.mem_cons_of_mem _ (List.mem_cons_of_mem _ e)
theorem minI_le : ∀ (l : List Int) (i : Int), minI i l ≤ i ∧ ∀ y ∈ l, minI i l ≤ y
  | [], i => ⟨Int.le_refl i, fun y h => nomatch h⟩
  | j :: l, i => by
    have h := minI_le l (if j < i then j else i)
    refine ⟨?_, fun y hy => ?_⟩
    · refine Int.le_trans h.1 ?_
      split <;> omega
    · rcases List.mem_cons.mp hy with rfl | hy
      · refine Int.le_trans h.1 ?_
        split <;> omega
      · exact h.2 y hy
theorem minI_mem : ∀ (l : List Int) (i : Int), minI i l ∈ i :: l
  | [], i => List.mem_cons_self ..
  | j :: l, i => by
    have h := minI_mem l (if j < i then j else i)
    show minI (if j < i then j else i) l ∈ _
    rcases List.mem_cons.mp h with e | e
    · rw [e]
      split
      · exact List.mem_cons_of_mem _ (List.mem_cons_self ..)
      · exact List.mem_cons_self ..
    · exact List.mem_cons_of_mem _ (List.mem_cons_of_mem _ e)
def gAll : List D → Option Z
  | [.lst l] => (blsD l).map fun bs => .d (.bl (bs.all id))
  | _ => none
def gMax : List D → Option Z
  | [.lst l] => (intsD l).bind fun ns => match ns with
    | [] => none
    | i :: ns => some (.d (.int (maxI i ns)))
  | [.int i, .int j] => some (.d (.int (if j > i then j else i)))
  | _ => none
def gMin : List D → Option Z
  | [.lst l] => (intsD l).bind fun ns => match ns with
    | [] => none
    | i :: ns => some (.d (.int (minI i ns)))
  | [.int i, .int j] => some (.d (.int (if j < i then j else i)))
  | _ => none
def rMaxA (K : PySem.W.Frag) : List V → Hp → VK → Prop := fun xs H Q => rMax K xs H Q ∨ ∃ i j, xs = [.int i, .int j] ∧ Q (.int (if j > i then j else i)) H
def rMinA (K : PySem.W.Frag) : List V → Hp → VK → Prop := fun xs H Q => rMin K xs H Q ∨ ∃ i j, xs = [.int i, .int j] ∧ Q (.int (if j < i then j else i)) H
section
variable {X : Cx} {K : PySem.W.Frag}
theorem call_maxA (hc : X.calm = true) : CallR X (.builtin "max") (rMaxA X.K) := fun pins s σ H xs us Q I r h => by
  rcases h with h | h
  · exact cr_max hc pins s σ H xs us Q I r h
  · exact call_max2 hc pins s σ H xs us Q I r h
theorem call_minA (hc : X.calm = true) : CallR X (.builtin "min") (rMinA X.K) := fun pins s σ H xs us Q I r h => by
  rcases h with h | h
  · exact cr_min hc pins s σ H xs us Q I r h
  · exact call_min2 hc pins s σ H xs us Q I r h
theorem b_all : FnB K (rAll K) gAll := fun H G xs ds z Q xx r hz k => by
  unfold gAll at hz
  split at hz
  · rename_i l
    cases q : blsD l with
    | none => rw [q] at hz; cases hz
    | some bs =>
      rw [q] at hz
      cases hz
      obtain ⟨v, rfl, r'⟩ := pr1 r
      obtain ⟨a, ys, rfl, h1, r1⟩ := r'.lst xx
      rw [blsD_rp r1 q] at h1
      exact ⟨a, bs, rfl, SqL.of h1, k _ H ⟨rfl, .bl _⟩⟩
  · cases hz
theorem b_max : FnB K (rMaxA K) gMax := fun H G xs ds z Q xx r hz k => by
  unfold gMax at hz
  split at hz
  · rename_i l
    cases q : intsD l with
    | none => rw [q] at hz; cases hz
    | some ns =>
      rw [q] at hz
      cases ns with
      | nil => cases hz
      | cons i ns =>
        cases hz
        obtain ⟨v, rfl, r'⟩ := pr1 r
        obtain ⟨a, ys, rfl, h1, r1⟩ := r'.lst xx
        rw [intsD_rp r1 q] at h1
        refine .inl ⟨a, i :: ns, rfl, SqL.of h1, Nat.succ_pos _, fun m hm hy => ?_⟩
        have e : m = maxI i ns := by
          have g1 := hy _ (maxI_mem ns i)
          have g2 := maxI_ge ns i
          rcases List.mem_cons.mp hm with e | e
          · have := g2.1; omega
          · have := g2.2 m e; omega
        subst e
        exact k _ H ⟨rfl, .int _⟩
  · rename_i i j
    cases hz
    obtain ⟨v, u, rfl, r1, r2⟩ := pr2 r
    rw [r1.int, r2.int]
    exact .inr ⟨i, j, rfl, k _ H ⟨rfl, .int _⟩⟩
  · cases hz
theorem b_min : FnB K (rMinA K) gMin := fun H G xs ds z Q xx r hz k => by
  unfold gMin at hz
  split at hz
  · rename_i l
    cases q : intsD l with
    | none => rw [q] at hz; cases hz
    | some ns =>
      rw [q] at hz
      cases ns with
      | nil => cases hz
      | cons i ns =>
        cases hz
        obtain ⟨v, rfl, r'⟩ := pr1 r
        obtain ⟨a, ys, rfl, h1, r1⟩ := r'.lst xx
        rw [intsD_rp r1 q] at h1
        refine .inl ⟨a, i :: ns, rfl, SqL.of h1, Nat.succ_pos _, fun m hm hy => ?_⟩
        have e : m = minI i ns := by
          have g1 := hy _ (minI_mem ns i)
          have g2 := minI_le ns i
          rcases List.mem_cons.mp hm with e | e
          · have := g2.1; omega
          · have := g2.2 m e; omega
        subst e
        exact k _ H ⟨rfl, .int _⟩
  · rename_i i j
    cases hz
    obtain ⟨v, u, rfl, r1, r2⟩ := pr2 r
    rw [r1.int, r2.int]
    exact .inr ⟨i, j, rfl, k _ H ⟨rfl, .int _⟩⟩
  · cases hz
def gClear : List D → List D → Option (List D × D)
  | _, [] => some ([], .non)
  | _, _ => none
theorem mt_clearR : MtR X "list.clear" rClear := mt_clear
theorem m_clear : MutL K rClear gClear := fun H G a xs ys ls ds l' z Q xx ha hg rl rd hz k => by
  unfold gClear at hz
  split at hz
  · cases rd
    cases hz
    exact ⟨a, xs, rfl, rfl, ha, k .non _ .nil .non⟩
  · cases hz
def gCount : List D → List D → Option (List D × D)
  | l, [.int i] => (intsD l).map fun ns => (l, .int (ns.count i : Nat))
  | _, _ => none
theorem m_count : MutL K (L2.rCntI K) gCount := fun H G a xs ys ls ds l' z Q xx ha hg rl rd hz k => by
  unfold gCount at hz
  split at hz
  · rename_i i
    cases q : intsD ls with
    | none => rw [q] at hz; cases hz
    | some ns =>
      rw [q] at hz
      cases hz
      cases rd with
      | cons r1 r2 =>
        cases r2
        cases r1
        have ex := intsD_rp rl q
        refine ⟨a, ns, i, rfl, rfl, SqL.of (by rw [ha, ex]), ?_⟩
        have := k (.int (ns.count i : Nat)) xs rl (.int _)
        have e : upd H a (.lst xs) = H := funext fun c => by
          by_cases hc : c = a
          · subst hc; rw [upd_same, ha]
          · rw [upd_ne hc]
        rw [e] at this
        exact this
  · cases hz
end
end DL

set_option Elab.async false
set_option maxRecDepth 100000
set_option maxHeartbeats 4000000
/-! DL18: methods of a text with one argument; join; list of a text; zip of two lists; a list turned. -/
namespace DL
open PySem PySem.Spec PyProof.Rows L2
def strsD : List D → Option (List Str)
  | [] => some []
  | .str c :: l => (strsD l).map (c :: ·)
  | _ => none
theorem strsD_rp {K : PySem.W.Frag} {G : Hp} : ∀ {xs : List V} {ds : List D} {bs : List Str}, RpA K G xs ds → strsD ds = some bs → xs = bs.map V.str
  | _, _, bs, .nil, h => by cases h; rfl
  | _, _, bs, .cons (d := d) (ds := l) h r, e => by
    cases d with
    | str c =>
      cases h
      have e : (strsD l).map (c :: ·) = some bs := e
      cases q : strsD l with
      | none => rw [q] at e; cases e
      | some cs => rw [q] at e; cases e; rw [strsD_rp r q]; rfl
    | _ => cases e
def wM1 (g : Str → D → Option Z) (ta tb : TD) : TD := fun ρ Q => ta ρ fun r1 ρ1 => lk (con ρ1 r1) fun d1 => match d1 with
  | .str a => tb ρ1 fun r2 ρ2 => lk (con ρ2 r2) fun d2 => lk (g a d2) fun z => Q z.r ρ2
  | _ => False
def Mt1 (K : PySem.W.Frag) (r : V → List V → Hp → VK → Prop) (g : Str → D → Option Z) : Prop := Op2 K (fun x y H Q => r x [y] H Q) (fun d e => match d with
  | .str a => g a e
  | _ => none)
theorem m1_go {K : PySem.W.Frag} {b : Bas} {r : V → List V → Hp → VK → Prop} {g : Str → D → Option Z} (hr : Mt1 K r g) {ta tb : TD} {σ : L2.St} {H : Hp} {Q : VK} (q : lift K b (wM1 g ta tb) σ H Q) : tM1 r (lift K b ta) (lift K b tb) σ H Q := by
  obtain ⟨G, ρ, QD, w, q, k⟩ := q
  refine ⟨G, ρ, _, w, q, fun v H1 G1 r1 ρ1 w1 m1 q1 z1 => ?_⟩
  obtain ⟨d1, c1, z1⟩ := lk_get z1
  cases d1 <;> try exact z1.elim
  rename_i a
  refine ⟨⟨a, (q1.rc w1 c1).str⟩, G1, ρ1, _, w1, z1, fun u H2 G2 r2 ρ2 w2 m2 q2 z2 => ?_⟩
  obtain ⟨d2, c2, z2⟩ := lk_get z2
  obtain ⟨z, cz, z2⟩ := lk_get z2
  have rx : Rc K H2 G2 v (.str a) := by rw [(q1.rc w1 c1).str]; exact .inl (.str a)
  refine hr H2 G2 v u (.str a) d2 z Q w2.sub rx (q2.rc w2 c2) cz fun v' H' o => ?_
  obtain ⟨G', w', m', q'⟩ := o.go w2
  exact k v' H' G' _ ρ2 w' ((m1.trans m2).trans m') (q'.back fun a z => (m1.trans m2).dm a z) z2
def gJoin (a : Str) (d : D) : Option Z := match d with
  | .lst l => (strsD l).bind fun ys => if (ys.map (·.length)).sum + ys.length * a.length ≤ 16777216 then some (.d (.str (Txt.join a ys))) else none
  | .tup l => (strsD l).bind fun ys => if (ys.map (·.length)).sum + ys.length * a.length ≤ 16777216 then some (.d (.str (Txt.join a ys))) else none
  | _ => none
def rJoin (K : PySem.W.Frag) : V → List V → Hp → VK → Prop := fun x xs H Q => ∃ a p, ∃ ys : List Str, x = .str a ∧ xs = [.ref p] ∧ (SqL K H p (ys.map V.str) ∨ SqT K H p (ys.map V.str)) ∧ (ys.map (·.length)).sum + ys.length * a.length ≤ 16777216 ∧ Q (.str (Txt.join a ys)) H
theorem o_join {K : PySem.W.Frag} : Mt1 K (rJoin K) gJoin := fun H G x y d e z Q xx rx ry hz k => by
  obtain ⟨a, rfl⟩ : ∃ a, d = .str a := by
    cases d with
    | str a => exact ⟨a, rfl⟩
    | _ => cases hz
  have hz : gJoin a e = some z := hz
  have key : ∀ l, (strsD l).bind (fun ys => if (ys.map (·.length)).sum + ys.length * a.length ≤ 16777216 then some (Z.d (.str (Txt.join a ys))) else none) = some z → ∃ ys, strsD l = some ys ∧ (ys.map (·.length)).sum + ys.length * a.length ≤ 16777216 ∧ z = .d (.str (Txt.join a ys)) := fun l h => by
    cases q : strsD l with
    | none => rw [q] at h; cases h
    | some ys =>
      rw [q] at h
      have h : (if (ys.map (·.length)).sum + ys.length * a.length ≤ 16777216 then some (Z.d (.str (Txt.join a ys))) else none) = some z := h
      by_cases hl : (ys.map (·.length)).sum + ys.length * a.length ≤ 16777216
      · rw [if_pos hl] at h; cases h; exact ⟨ys, rfl, hl, rfl⟩
      · rw [if_neg hl] at h; cases h
  cases e with
  | lst l =>
    obtain ⟨ys, q, hl, rfl⟩ := key l hz
    obtain ⟨p, vs, rfl, h1, r1⟩ := ry.lst xx
    rw [strsD_rp r1 q] at h1
    exact ⟨a, p, ys, rx.str, rfl, .inl (SqL.of h1), hl, k _ H ⟨rfl, .str _⟩⟩
  | tup l =>
    obtain ⟨ys, q, hl, rfl⟩ := key l hz
    obtain ⟨p, vs, rfl, h1, r1, _⟩ := ry.tup xx
    have h2 := h1.1
    rw [strsD_rp r1 q] at h2
    exact ⟨a, p, ys, rx.str, rfl, .inr h2, hl, k _ H ⟨rfl, .str _⟩⟩
  | _ => cases hz
section
variable {X : Cx} {b : Bas} {o e : Expr} {ta tb : TD} {apos pos : Pos}
theorem d_join (ho : PD X b o ta) (he : PD X b e tb) (hs : starEach [e] X.env = [(false, eval e X.env)] := by rfl) (hbase : attributeBase o "join" X.env (eval o X.env) = eval o X.env := by rfl) (hline : (apos.endLine == pos.line) = true := by rfl) :
    PD X b (.Call (.Attribute o "join" apos) [e] [] pos) (wM1 gJoin ta tb) := pe_weak (pe_join ho he hs hbase hline) fun _ _ _ q => m1_go o_join q
end

/-! ### list of a text -/
def gListA : List D → Option Z
  | [.str x] => if x.cps.size ≤ sizeLine then some (.n (.lst (signsD x))) else none
  | l => gListOf l
def rListS : List V → Hp → VK → Prop := fun xs H Q => ∃ x : Str, xs = [.str x] ∧ x.cps.size ≤ sizeLine ∧ ∀ l, H l = none → Q (.ref l) (upd H l (.lst (x.cps.toList.map fun c => V.str ⟨#[c]⟩)))
theorem vals_at : ∀ {xs : List V} {us : List Value}, xs.length = us.length → (∀ (i : Nat) (x : V) (u : Value), xs[i]? = some x → us[i]? = some u → RelV x u) → Vals xs us
  | [], [], _, _ => .nil
  | x :: xs, u :: us, h, k => .cons (k 0 x u rfl rfl) (vals_at (Nat.succ.inj h) fun i y v e1 e2 => k (i + 1) y v e1 e2)
theorem call_listS {X : Cx} (hc : X.calm = true) : CallR X (.type "list") rListS := by
  intro pins s σ H xs us Q I r h
  obtain ⟨x, rfl, hx, q⟩ := h
  obtain ⟨u, rfl, rx⟩ := vals1 r
  obtain ⟨t, rfl⟩ := rx
  refine call_list_str (I.ok.hd hc) x t (fun h' tk acc c hk ho hi => ?_) hx
  have hsz : acc.size = x.cps.size := hi.1
  refine ⟨.ref _, _, I.laid (t' := tk) (o := .lst (x.cps.toList.map fun c => V.str ⟨#[c]⟩)) hk (Nat.le_refl _) ?_, rfl, q _ (I.hok.fresh (Nat.le_refl _))⟩
  refine ⟨by rw [List.length_map, Array.length_toList]; exact hx, acc.toList, c, vals_at (by rw [List.length_map, Array.length_toList, Array.length_toList, hsz]) fun i y v e1 e2 => ?_, ho⟩
  rw [List.getElem?_map] at e1
  have e2 : acc[i]? = some v := by rw [← Array.getElem?_toList]; exact e2
  obtain ⟨c', u', h1, rfl⟩ := hi.2 i v e2
  have h1 : x.cps.toList[i]? = some c' := by rw [Array.getElem?_toList]; exact h1
  rw [h1] at e1
  cases e1
  exact ⟨u', rfl⟩
theorem signs_rp {K : PySem.W.Frag} {G : Hp} : ∀ l : List Nat, RpA K G (l.map fun c => V.str ⟨#[c]⟩) (l.map fun c => D.str ⟨#[c]⟩)
  | [] => .nil
  | c :: l => .cons (.str _) (signs_rp l)
def rListA (K : PySem.W.Frag) : List V → Hp → VK → Prop := fun xs H Q => rListS xs H Q ∨ rListOf K xs H Q
theorem b_listA {K : PySem.W.Frag} : FnB K (rListA K) gListA := fun H G xs ds z Q xx r hz k => by
  unfold gListA at hz
  split at hz
  · rename_i x
    split at hz
    · rename_i hl
      cases hz
      obtain ⟨v, rfl, r'⟩ := pr1 r
      obtain rfl := r'.str
      exact .inl ⟨x, rfl, hl, fun p hp => k _ _ ⟨p, _, rfl, hp, rfl, .lst (signs_rp x.cps.toList)⟩⟩
    · cases hz
  · exact .inr (b_listOf H G xs ds z Q xx r hz k)
theorem call_listA {X : Cx} (hc : X.calm = true) : CallR X (.type "list") (rListA X.K) := fun pins s σ H xs us Q I r h => by
  rcases h with h | h
  · exact call_listS hc pins s σ H xs us Q I r h
  · exact call_list_of pins s σ H xs us Q I r h
end DL

set_option Elab.async false
set_option maxRecDepth 100000
set_option maxHeartbeats 4000000
/-! DL19: xs[::-1] of a list or a tuple; zip of two lists. -/
namespace DL
open PySem PySem.Spec PyProof.Rows L2
section
variable {prog : Program} {w : World} {A : Around} {E : Value → Shared → Prop} {s : Shared}
theorem sliceApplied_rev {sl : Addr} {n : Nat} {t : Tok} {Q : Int × Int × Nat → Shared → Prop} (hs : s.heap.IsSliceOf sl .none .none (.int (-1) t))
    (h : Q ((n : Int) - 1, -1, n) s) : wpAny (model prog w) A (Builtin.Slice.sliceApplied (.ref sl) (pure (n : Int))) Q E s := by
  obtain ⟨os, hos, hcs, hds⟩ := id hs
  unfold Builtin.Slice.sliceApplied Builtin.Slice.sliceFields
  refine wpAny_bind (wpAny_bind (wpAny_field hos hds (x := .none) rfl (wpAny_bind (wpAny_field hos hds (x := .none) rfl (wpAny_bind (wpAny_field hos hds (x := .int (-1) t) rfl (wpAny_pure ?_)))))))
  refine wpAny_bind (slicePart_int ?_)
  show wpAny _ _ (if ((-1 : Int) == 0) = true then _ else _) _ _ s
  rw [if_neg (by decide)]
  refine wpAny_bind (slicePart_none (wpAny_bind (slicePart_none (wpAny_bind (wpAny_pure ?_)))))
  have e : Builtin.Slice.slicePlaces ((n : Int) - 1) (-1) (-1) = n := by
    unfold Builtin.Slice.slicePlaces
    have h1 : ¬ ((-1 : Int) > 0) := by omega
    simp only [h1, if_false]
    by_cases h2 : (n : Int) - 1 > -1
    · rw [if_pos h2, show (- -1 : Int) = 1 by decide, Int.ediv_one]; omega
    · rw [if_neg h2]; omega
  show wpAny _ _ (pure (((n : Int) - 1), (-1 : Int), Builtin.Slice.slicePlaces ((n : Int) - 1) (-1) (-1))) _ _ s
  rw [e]
  exact wpAny_pure h
theorem fm_congr {α β : Type} {f g : α → Option β} : ∀ {l : List α}, (∀ x ∈ l, f x = g x) → l.filterMap f = l.filterMap g
  | [], _ => rfl
  | x :: l, h => by
    rw [List.filterMap_cons, List.filterMap_cons, h x (List.mem_cons_self ..), fm_congr fun y hy => h y (List.mem_cons_of_mem _ hy)]
theorem pick_rev (xs : Array Value) : ((List.range xs.size).filterMap fun (m : Nat) => xs[(((xs.size : Int) - 1) + (m : Int) * (-1)).toNat]?).toArray = xs.toList.reverse.toArray := by
  have e : (List.range xs.size).filterMap (fun (m : Nat) => xs[(((xs.size : Int) - 1) + (m : Int) * (-1)).toNat]?) = ((List.range xs.size).map fun k => xs.size - 1 - k).filterMap (xs[·]?) := by
    rw [List.filterMap_map]
    exact fm_congr fun m hm => by
      have := List.mem_range.mp hm
      show xs[(((xs.size : Int) - 1) + (m : Int) * (-1)).toNat]? = xs[xs.size - 1 - m]?
      rw [show (((xs.size : Int) - 1) + (m : Int) * (-1)).toNat = xs.size - 1 - m by omega]
  rw [e, PySem.W.krv_range, List.filterMap_reverse, PySem.W.krv_all]
theorem getItem_tuple_rev {t sl : Addr} {items : Array Value} {u : Tok} {Q : Value → Shared → Prop} (ht : IsTup s.heap t items) (hs : s.heap.IsSliceOf sl .none .none (.int (-1) u))
    (h : Q (.ref s.heap.objs.size) { s with heap := s.heap.push { cls := .type "tuple", data := .seq items.toList.reverse.toArray } })
    (hsz : items.size ≤ sizeLine) : wpAny (model prog w) A (getItem (.ref t) (.ref sl)) Q E s := by
  have htake : sizeOk (.seq items.toList.reverse.toArray) := by
    show items.toList.reverse.toArray.size ≤ sizeLine
    rw [List.size_toArray, List.length_reverse, Array.length_toList]
    omega
  obtain ⟨os, hos, hcs, hds⟩ := id hs
  have hTs : s.TypeIs (.ref sl) "slice" := ⟨os, hos, hcs⟩
  unfold getItem
  try with_reducible refine wpAny_holding ?_
  first | refine wpAny_bind (wpAny_pure ?_) | skip
  refine wpAny_bind (wpAny_sequenceKey ht.typeIs (by decide) ?_)
  refine wpAny_bind (wpAny_callSpecial?_slot (name := Str.ofString "__getitem__") ht.typeIs PyProof.Rows.slot_tuple_getitem
    (wpAny_call_entry PyProof.Rows.slot_tuple_getitem ht.typeIs entry_tuple_getitem ?_ (args_tuple_getitem _ _)))
  show wpAny _ _ (Builtin.Tuple.tupleItemsOf (.ref t) >>= _) _ _ s
  refine wpAny_bind (tupleItemsOf_ ht ?_)
  refine wpAny_bind (wpAny_typeOf hTs ?_)
  rw [if_pos (by decide)]
  refine wpAny_bind (sliceApplied_rev hs ?_)
  have hno : ¬ ((((items.size : Int) - 1) == 0 && (-1 : Int) == 1 && items.size == items.size) = true) := by
    intro q
    rw [Bool.and_eq_true, Bool.and_eq_true] at q
    exact absurd (eq_of_beq q.1.2) (by decide)
  show wpAny _ _ (if (((items.size : Int) - 1) == 0 && (-1 : Int) == 1 && items.size == items.size) = true then _ else _) _ _ s
  rw [if_neg hno, pick_rev]
  first
    | exact wpAny_bind (m := Builtin.Tuple.tupleExact _) (wpAny_newObj_type (wpAny_pure ⟨_, rfl, wpAny_pure h⟩) htake)
    | exact wpAny_bind (m := Builtin.Tuple.tupleExact _) (wpAny_newObj_type (wpAny_bind (wpAny_pure (wpAny_pure ⟨_, rfl, wpAny_pure h⟩))) htake)
    | exact wpAny_bind (wpAny_bind (m := Builtin.Tuple.tupleExact _) (wpAny_newObj_type (wpAny_pure (wpAny_pure ⟨_, rfl, wpAny_pure h⟩)) htake))
    | exact wpAny_bind (wpAny_bind (m := Builtin.Tuple.tupleExact _) (wpAny_newObj_type (wpAny_pure ⟨_, rfl, wpAny_pure h⟩) htake))
end
def tRevA (K : PySem.W.Frag) (te : TE) : TE := fun σ H Q => te σ H fun x H1 => ∃ a xs, x = .ref a ∧ ((SqL K H1 a xs ∧ ∀ p, H1 p = none → Q (.ref p) (upd H1 p (.lst xs.reverse))) ∨ (SqT K H1 a xs ∧ NewT H1 xs.reverse Q))
theorem pe_revA {X : Cx} {e : Expr} {te : TE} {k : Nat} {p1 p2 p3 pos : Pos} (he : PE X e te) : PE X (.Subscript e (.Slice none none (some (.UnaryOp .USub (.Constant (.int 1) k p1) p2)) p3) pos) (tRevA X.K te) := by
  refine ⟨fun pins s σ H Q I h => ?_⟩
  refine Subscript_ (thn (he.run pins s σ H _ I h) fun v s1 ⟨x, H1, I1, r1, q1⟩ => ?_)
  obtain ⟨a, xs, ex, q⟩ := q1
  subst ex
  cases r1
  have hst : PO X (some (.UnaryOp .USub (.Constant (.int 1) k p1) p2)) (tPart (tUn (rU fun i => .int (-i)) (tC (.int 1)))) := po_some (pe_un un_neg pe_int)
  refine wpAny_Slice (thn (po_none.run pins s1 σ H1 (fun o H2 => o = none ∧ H2 = H1) I1 ⟨rfl, rfl⟩) fun vl s2 ⟨l, H2, I2, pl, el, e2⟩ => ?_)
  subst el e2
  refine thn (po_none.run pins s2 σ H2 (fun o H3 => o = none ∧ H3 = H2) I2 ⟨rfl, rfl⟩) fun vu s3 ⟨u, H3, I3, pu, eu, e3⟩ => ?_
  subst eu e3
  refine thn (hst.run pins s3 σ H3 (fun o H4 => o = some (-1) ∧ H4 = H3) I3 ⟨1, rfl, -1, rfl, rfl, rfl⟩) fun vs s4 ⟨o, H4, I4, ps, eo, e4⟩ => ?_
  subst eo e4
  have I5 : Inv X pins σ H4 { s4 with heap := s4.heap.push { cls := .type "slice", data := .fields #[vl, vu, vs] } } := I4.kept (t' := s4.toks) fun b ob q => Heap.get?_push_of_some _ q
  rcases q with ⟨hx, q⟩ | ⟨hx, q⟩
  · obtain ⟨its, r, ht, hz⟩ := I5.list hx
    have hlen := r.length
    show wpAny (model X.prog X.w) X.A (subscriptTail e (.Slice none none (some (.UnaryOp .USub (.Constant (.int 1) k p1) p2)) p3) (.ref a) (.ref s4.heap.objs.size)) (EP X pins σ Q) X.xe { s4 with heap := s4.heap.push { cls := .type "slice", data := .fields #[vl, vu, vs] } }
    refine tail_any (ops := [.ref a, .ref s4.heap.objs.size]) ht.isList.typeIs (PySem.slot_list_getitem.lookup) ?_ (by with_unfolding_all rfl)
    refine wpAny_getItem_list_slice ht.isList (Heap.IsSliceOf.new _ vl vu vs) pl pu ps (by decide) ?_ (by rw [List.size_toArray]; omega)
    rw [PySem.W.krv_pick]
    refine ⟨.ref _, _, I5.laid (t' := s4.toks) (o := .lst xs.reverse) (fun b ob q => Heap.get?_push_of_some _ q) (Nat.le_refl _) ?_, rfl, q _ (I5.hok.fresh (Nat.le_refl _))⟩
    exact ⟨by rw [List.length_reverse]; exact hz, _, 0, r.reverse, Heap.get?_push_size _ rfl⟩
  · obtain ⟨its, r, ht, hz⟩ := I5.tuple hx
    have hlen := r.length
    cases pl
    cases pu
    cases ps with
    | int i t =>
      show wpAny (model X.prog X.w) X.A (subscriptTail e (.Slice none none (some (.UnaryOp .USub (.Constant (.int 1) k p1) p2)) p3) (.ref a) (.ref s4.heap.objs.size)) (EP X pins σ Q) X.xe { s4 with heap := s4.heap.push { cls := .type "slice", data := .fields #[.none, .none, .int (-1) t] } }
      refine tail_any (ops := [.ref a, .ref s4.heap.objs.size]) ht.typeIs (PyProof.Rows.slot_tuple_getitem.lookup) ?_ (by with_unfolding_all rfl)
      refine getItem_tuple_rev ht (Heap.IsSliceOf.new _ _ _ _) ?_ (by rw [List.size_toArray]; omega)
      exact laidT I5 r.reverse (by rw [List.length_reverse]; exact hz) q

theorem RpA.rev {K : PySem.W.Frag} {G : Hp} : ∀ {xs : List V} {ds : List D}, RpA K G xs ds → RpA K G xs.reverse ds.reverse
  | _, _, .nil => .nil
  | _, _, .cons h r => by
    rw [List.reverse_cons, List.reverse_cons]
    exact RpA.app r.rev (.cons h .nil)
def gRev : D → Option Z
  | .lst l => some (.n (.lst l.reverse))
  | .fzl l => some (.n (.lst l.reverse))
  | .tup l => some (.t l.reverse)
  | _ => none
def rRevA (K : PySem.W.Frag) : V → Hp → VK → Prop := fun x H1 Q => ∃ a xs, x = .ref a ∧ ((SqL K H1 a xs ∧ ∀ p, H1 p = none → Q (.ref p) (upd H1 p (.lst xs.reverse))) ∨ (SqT K H1 a xs ∧ NewT H1 xs.reverse Q))
theorem o_rev {K : PySem.W.Frag} : Op1 K (rRevA K) gRev := fun H G x d z Q xx rx hz k => by
  cases d with
  | lst l =>
    cases hz
    obtain ⟨a, xs, rfl, h1, r1⟩ := rx.lst xx
    exact ⟨a, xs, rfl, .inl ⟨SqL.of h1, fun p hp => k _ _ ⟨p, _, rfl, hp, rfl, .lst r1.rev⟩⟩⟩
  | fzl l =>
    cases hz
    obtain ⟨a, xs, rfl, h1, r1⟩ := rx.fzl xx
    exact ⟨a, xs, rfl, .inl ⟨h1, fun p hp => k _ _ ⟨p, _, rfl, hp, rfl, .lst r1.rev⟩⟩⟩
  | tup l =>
    cases hz
    obtain ⟨a, xs, rfl, h1, r1, p1⟩ := rx.tup xx
    exact ⟨a, xs, rfl, .inr ⟨h1.1, fun p o ho hp => k _ _ (.inl ⟨p, o, _, rfl, ho, hp, rfl, r1.rev⟩)⟩⟩
  | _ => cases hz
theorem d_rev {X : Cx} {b : Bas} {e : Expr} {ta : TD} {k : Nat} {p1 p2 p3 pos : Pos} (he : PD X b e ta) : PD X b (.Subscript e (.Slice none none (some (.UnaryOp .USub (.Constant (.int 1) k p1) p2)) p3) pos) (wUn gRev ta) :=
  pe_weak (pe_revA he) fun _ _ _ q => un_go (r := rRevA X.K) o_rev q

/-! ### zip of two lists -/
def zipD : List D → List D → List D
  | x :: xs, y :: ys => .wt [x, y] :: zipD xs ys
  | _, _ => []
theorem zipD_at : ∀ {l m : List D} {i : Nat} {d : D}, (zipD l m)[i]? = some d → ∃ x y, l[i]? = some x ∧ m[i]? = some y ∧ d = .wt [x, y]
  | x :: l, y :: m, 0, d, h => by cases h; exact ⟨x, y, rfl, rfl, rfl⟩
  | x :: l, y :: m, i + 1, d, h => zipD_at (l := l) (m := m) (i := i) h
  | [], m, i, d, h => by cases m <;> cases h
  | x :: l, [], i, d, h => by cases h
theorem zipD_len : ∀ {l m : List D}, (zipD l m).length = l.length ∨ (zipD l m).length = m.length
  | x :: l, y :: m => by
    show (zipD l m).length + 1 = _ ∨ (zipD l m).length + 1 = _
    rcases zipD_len (l := l) (m := m) with h | h
    · exact .inl (by rw [h]; rfl)
    · exact .inr (by rw [h]; rfl)
  | [], m => .inl (by cases m <;> rfl)
  | x :: l, [] => .inr rfl
theorem itD_zip {K : PySem.W.Frag} {G : Hp} {a c : Addr} {xs ys : List V} {ds es : List D} (h : SqL K G a xs) (r : RpA K G xs ds) (h' : SqL K G c ys) (r' : RpA K G ys es) : ItD K (Itz K a c) (zipD ds es) G := fun i H G1 x1 x2 => by
  have hH := x2.sql (x1.sql h)
  have hH' := x2.sql (x1.sql h')
  refine ⟨fun d e => ?_, fun hl => ⟨xs, ys, hH, hH', ?_⟩⟩
  · obtain ⟨y, z, e1, e2, rfl⟩ := zipD_at e
    obtain ⟨v, h1, h2⟩ := r.at e1
    obtain ⟨u, g1, g2⟩ := r'.at e2
    refine ⟨⟨xs, ys, v, u, hH, hH', h1, g1⟩, fun x H' q => ?_⟩
    obtain ⟨T, x', y', rfl, hT, rfl, q1, q2⟩ := q
    have t1 := q1 xs hH
    have t2 := q2 ys hH'
    rw [h1] at t1
    rw [g1] at t2
    cases t1
    cases t2
    exact ⟨.w [y, z], rfl, T, _, rfl, hT, rfl, .cons (h2.up x1) (.cons (g2.up x1) .nil)⟩
  · rw [r.len, r'.len]
    rcases zipD_len (l := ds) (m := es) with e | e
    · exact .inl (by omega)
    · exact .inr (by omega)
def wItZ (ks : List Nat) (t : TAD) : TID := fun ρ Q => t ρ fun rs ρ1 => lk (frzs ks rs ρ1) fun p => match p.1 with
  | [x, y] => lk (listD x) fun l => lk (listD y) fun m => Q (zipD l m) p.2
  | _ => False
theorem i_zip {X : Cx} {b : Bas} {ks : List Nat} {e e2 : Expr} {t : TAD} {p pos tpos : Pos} {elts : List Expr} {kk : Nat} (hk : b.kp.map (·.1) = ks) (hg : Gl X "zip") (hm : X.mg "zip" = none) (ha : PAD X b [e, e2] t)
    (hs : starEach [e, e2] X.env = (false, eval e X.env) :: starEach [e2] X.env := by rfl) (hpl : (backTo pos (starEach [e2] X.env)).any (·.1) = false := by rfl) :
    PI X (.Tuple elts kk tpos) (.Call (.Name "zip" p) [e, e2] [] pos) (liftI X.K b (wItZ ks t)) := i_weak (pi_zip hg hm ha hs hpl) fun σ H Rr q => by
  obtain ⟨G, ρ, QD, w, q, k⟩ := q
  refine ⟨G, ρ, _, w, q, fun vs H1 G1 rs ρ1 w1 m1 q1 z => ?_⟩
  obtain ⟨p, e1, z⟩ := lk_get z
  obtain ⟨ds, ρ2⟩ := p
  obtain ⟨G2, w2, m2, r2, x2⟩ := Rel.frzs hk w1 m1 q1 e1
  dsimp only at z
  split at z
  · rename_i x y
    obtain ⟨l, e2, z⟩ := lk_get z
    obtain ⟨m, e3, z⟩ := lk_get z
    cases r2 with
    | cons h1 h2 =>
      cases h2 with
      | cons h2 h3 =>
        cases h3
        obtain ⟨a, xs, rfl, h1, r1⟩ := listD_ok h1 e2
        obtain ⟨c, ys, rfl, h2, r2⟩ := listD_ok h2 e3
        exact ⟨a, c, xs, ys, rfl, w2.sub.sql h1, w2.sub.sql h2, k _ H1 G2 _ ρ2 w2 m2 (itD_zip h1 r1 h2 r2) z⟩
  · exact z.elim
end DL

set_option Elab.async false
set_option maxRecDepth 100000
set_option maxHeartbeats 4000000
/-! DL20: len(set(xs)), xs a list of texts. -/
namespace DL
open PySem PySem.Spec PyProof.Rows L2
/-- how many others there are (the last one first) -/
def distR : List Str → Nat
  | [] => 0
  | x :: l => if x ∈ l then distR l else distR l + 1
theorem distR_le : ∀ l : List Str, distR l ≤ l.length
  | [] => Nat.le_refl 0
  | x :: l => by
    have h := distR_le l
    show (if x ∈ l then distR l else distR l + 1) ≤ l.length + 1
    split <;> omega
theorem distR_nodup : ∀ l : List Str, distR l = l.length ↔ l.Nodup
  | [] => ⟨fun _ => List.nodup_nil, fun _ => rfl⟩
  | x :: l => by
    have h := distR_nodup l
    have g := distR_le l
    show (if x ∈ l then distR l else distR l + 1) = l.length + 1 ↔ _
    rw [List.nodup_cons]
    by_cases hx : x ∈ l
    · rw [if_pos hx]
      exact ⟨fun e => by omega, fun e => absurd hx e.1⟩
    · rw [if_neg hx]
      exact ⟨fun e => ⟨hx, h.mp (by omega)⟩, fun e => by rw [h.mpr e.2]⟩
/-- how many others there are -/
def distN (l : List Str) : Nat := distR l.reverse
section
variable {P : Program} {w : World} {A : Around} {E : Value → Shared → Prop} {s : Shared}
theorem setOf_to {h h' : Heap} {a : Addr} {S S' : Str → Bool} {n n' : Nat} (R : h.SetOf (PySem.strKind P w) a S n) (k : ∀ o, h.get? a = some o → h'.get? a = some o) (e : ∀ z, S z = S' z) (e2 : n = n') : h'.SetOf (PySem.strKind P w) a S' n' := by
  have e : S = S' := funext e
  subst e e2
  obtain ⟨o, es, ep, t, ho, r⟩ := R
  exact ⟨o, es, ep, t, k o ho, r⟩
theorem set_update_strs {I : Addr} {fp wr : List Addr} {G : Array GenState → Array GenState → Prop} {n : Nat} {Pv : Nat → Value → Prop} {St : Nat → Shared → Prop} {R : Result → Shared → Prop}
    (W : WalksS P w A.in1 I fp wr G n Pv St) (S : Addr) (hSf : S ∉ fp) (xs : List Str) (hn : n = xs.length) (hb : xs.length + 1 < scanBound) (hval : ∀ i v, Pv i v → ∃ k t, xs[i]? = some k ∧ v = .str k t) :
    ∀ (k i : Nat) (s : Shared), n - i = k → i ≤ n → St i s → s.heap.SetOf (PySem.strKind P w) S (fun j => decide (j ∈ xs.take i)) (distN (xs.take i)) →
      (∀ s', Moved (S :: wr) G s s' → s'.heap.SetOf (PySem.strKind P w) S (fun j => decide (j ∈ xs)) (distN xs) → R (.ok (.ret .none)) s') →
      codeAny (model P w) A (.builtin "set.update.loop" ⟨[.ref S, .ref I], []⟩) R s := by
  have hSw : S ∉ wr := fun h => hSf (W.sub _ h)
  intro k
  induction k with
  | zero =>
    intro i s hk' hi hst hS hR
    obtain rfl : i = n := by omega
    refine codeAny_builtin PyProof.Rows.F.entry_set_update_loop ?_
    rw [Around.under_plainId PyProof.Rows.F.plain_set_update_loop _]
    show wpAny _ A.in1 (pyNext (.ref I) >>= _) _ _ s
    refine wpAny_bind (W.done s _ _ hst fun s' hm => wpAny_pure (hR s' (hm.mono fun b hb => List.mem_cons_of_mem _ hb) ?_))
    rw [List.take_of_length_le (by omega)] at hS
    exact setOf_to hS (fun o e => hm.heap S o hSw e) (fun _ => rfl) rfl
  | succ k ih =>
    intro i s hk' hi hst hS hR
    have hlt : i < n := by omega
    refine codeAny_builtin PyProof.Rows.F.entry_set_update_loop ?_
    rw [Around.under_plainId PyProof.Rows.F.plain_set_update_loop _]
    show wpAny _ A.in1 (pyNext (.ref I) >>= _) _ _ s
    refine wpAny_bind (W.item i s _ _ hlt hst fun v s' hP hst' hm => ?_)
    obtain ⟨z, t, hz, rfl⟩ := hval i v hP
    have hS' : s'.heap.SetOf (PySem.strKind P w) S (fun j => decide (j ∈ xs.take i)) (distN (xs.take i)) := setOf_to hS (fun o e => hm.heap S o hSw e) (fun _ => rfl) rfl
    show wpAny _ A.in1 (holding [Value.str z t] (setAdd S (.str z t)) >>= _) _ _ s'
    refine wpAny_bind (wpAny_holding ?_)
    unfold setAdd
    refine wpAny_holding ?_
    refine wpAny_bind ((PySem.strKind P w).pyHash (k := z) (strKind_is _ _ _ _) ?_)
    have hlen : distN (xs.take i) ≤ xs.length := Nat.le_trans (distR_le _) (by rw [List.length_reverse, List.length_take]; omega)
    refine wpAny_setAddHashed_of (knd := PySem.strKind P w) (s := { s' with toks := s'.toks + 1 }) (strKind_is _ _ _ _) rfl hS' (by omega) fun h' hsb hS2 => ?_
    have tk : xs.take (i + 1) = xs.take i ++ [z] := by rw [List.take_add_one, hz]; rfl
    have hS3 : h'.SetOf (PySem.strKind P w) S (fun j => decide (j ∈ xs.take (i + 1))) (distN (xs.take (i + 1))) := setOf_to hS2 (fun _ e => e) (fun j => by
      rw [tk]
      simp [List.mem_append]) (by
      rw [tk]
      show _ = distR (xs.take i ++ [z]).reverse
      rw [List.reverse_append]
      show _ = (if z ∈ (xs.take i).reverse then distR (xs.take i).reverse else distR (xs.take i).reverse + 1)
      by_cases hz2 : z ∈ xs.take i
      · rw [if_pos (by simpa using hz2), if_pos (List.mem_reverse.mpr hz2)]; rfl
      · rw [if_neg (by simpa using hz2), if_neg (fun q => hz2 (List.mem_reverse.mp q))]; rfl)
    refine wpAny_pure ⟨plainId_quiet PyProof.Rows.F.plain_set_update_loop _, ih (i + 1) _ (by omega) hlt (W.frame _ s' _ _ hst' (Nat.le_succ _) fun b hb o e => ?_) hS3 fun s'' hm'' hS'' => ?_⟩
    · rw [hsb.2 b (fun h : b = S => hSf (by rw [← h]; exact hb))]; exact e
    · refine hR s'' (Moved.trans W.gtrans ((hm.mono fun b hb => List.mem_cons_of_mem _ hb).then_heap (Nat.le_succ _) fun b o hb e => ?_) hm'') hS''
      rw [hsb.2 b (fun h : b = S => hb (by rw [h]; exact List.mem_cons_self))]; exact e
theorem call_set_strs {l : Addr} {items : Array Value} {xs : List Str} {Q : Value → Shared → Prop} (hh : A.handled = none) (hl : s.heap.IsList l items) (hi : PyProof.Rows.StrsAre items.toList xs) (hb : xs.length + 1 < scanBound)
    (h : ∀ (h' : Heap) (tk : Nat), h'.SetOf (PySem.strKind P w) s.heap.objs.size (fun j => decide (j ∈ xs)) (distN xs) → (∀ b o, s.heap.get? b = some o → h'.get? b = some o) → Q (.ref s.heap.objs.size) { s with heap := h', toks := tk }) :
    wpAny (model P w) A (call (.type "set") [.ref l]) Q E s := by
  obtain ⟨c, tl, hmro⟩ := PySem.F.called_set.mro
  have hmade := PySem.F.called_set.made
  have hsub := PySem.F.called_set.sub
  refine wpAny_call (codeAny_of_tree ?_)
  show wpAny _ _ (callAny (.type "set") _) _ _ _
  refine wpAny_pure ⟨Code.quiet_builtin _ (by decide +kernel), codeAny_builtin PySem.F.entry_type_call ?_⟩
  rw [Around.under_plain (weight_type_call_type "set" [.ref l] []) rfl]
  have h1 := PySem.F.called_set.notType
  have h2 := PySem.F.called_set.canCreate
  have hct := PySem.F.typeCall_set_1 (.ref l)
  repeat (any_goals (first | assumption | wp_step))
  refine codeAny_mono (code_set_new_1 (.ref l) (E := E) (Q₁ := fun obj s₁ => ∃ led : Bool, obj = .ref s.heap.objs.size ∧ s₁ = { s with heap := s.heap.push { cls := .type "set", dict := none, data := .set #[] 0 (.fresh 0 0 led) } }) fun led => ⟨led, rfl, rfl⟩) fun r s₁ hr => ?_
  cases r with
  | error e => exact hr
  | ok fl =>
    cases fl with
    | ret obj =>
      obtain ⟨led, rfl, rfl⟩ := hr
      have hS : (s.heap.push { cls := .type "set", dict := none, data := .set #[] 0 (.fresh 0 0 led) }).get? s.heap.objs.size = some { cls := .type "set", dict := none, data := .set #[] 0 (.fresh 0 0 led) } := Heap.get?_push_size _ rfl
      have hT : Shared.TypeIs { s with heap := s.heap.push { cls := .type "set", dict := none, data := .set #[] 0 (.fresh 0 0 led) } } (.ref s.heap.objs.size) "set" := ⟨_, hS, rfl⟩
      have hli := PySem.F.called_set.init.lookup
      have hbi := PySem.F.called_set.init.bind (.ref s.heap.objs.size)
      repeat (any_goals (first | assumption | wp_step))
      refine codeAny_mono (codeAny_call_builtin (R := wants (fun r s₂ => r = .none ∧ ∃ h' tk, s₂ = { s with heap := h', toks := tk } ∧
          h'.SetOf (PySem.strKind P w) s.heap.objs.size (fun j => decide (j ∈ xs)) (distN xs) ∧ (∀ b o, s.heap.get? b = some o → h'.get? b = some o)) E) PySem.F.called_set.init.plain PySem.F.entry_set_init (check_set_init_1 hT ?_)) fun r₂ s₂ hr₂ => ?_
      · have hlS : l < s.heap.objs.size := by obtain ⟨_, e, _⟩ := hl; exact Heap.lt_size e
        have hl1 : (s.heap.push { cls := .type "set", dict := none, data := .set #[] 0 (.fresh 0 0 led) }).IsList l items := hl.push _
        obtain ⟨ol, hol, hcl, nl, hdl⟩ := id hl1
        obtain ⟨ocls, odict, odata, oslots⟩ := ol
        simp only at hcl hdl
        subst hcl; subst hdl
        have hsls := PySem.F.sub_list_set
        have hslf := PySem.F.sub_list_frozenset
        have hne : (Value.type "list" == Value.type "dict") = false := by decide
        unfold Builtin.«set.__init__» noKeywords Builtin.Frozenset.updateFrom
        generalize hPI : pyIter = PI
        wp_walk
        subst hPI
        refine wpAny_pyIter_list hl1 (wpAny_bind (wpAny_runValue ?_))
        have hsz : items.size = xs.length := by rw [← StrsAre.len_eq hi, Array.length_toList]
        have hneI : l ≠ (s.heap.push { cls := .type "set", dict := none, data := .set #[] 0 (.fresh 0 0 led) }).objs.size := by
          rw [Heap.size_push]; exact Nat.ne_of_lt (Nat.lt_succ_of_lt hlS)
        refine set_update_strs ((Walks.list (by simp [hh]) _ l hneI items).toS) s.heap.objs.size ?hSf xs hsz hb (fun i v hv => ?hval) items.size 0 _ (by omega) (Nat.zero_le _)
          ⟨⟨_, Heap.get?_push_size _ rfl, rfl, rfl⟩, (hl1.push _)⟩ ?hS0 fun s' hm hS' => ?hR
        case hSf =>
          rw [Heap.size_push]; simp only [List.mem_cons, List.not_mem_nil, or_false, not_or]
          exact ⟨Nat.ne_of_lt (Nat.lt_succ_self _), Nat.ne_of_gt hlS⟩
        case hval =>
          have hlt : i < xs.length := by rw [← hsz]; exact (Array.getElem?_eq_some_iff.mp hv).1
          obtain ⟨t, e⟩ := SS.strs_at hi i v (by rw [Array.getElem?_toList]; exact hv)
          refine ⟨xs[i], t, List.getElem?_eq_getElem hlt, ?_⟩
          rw [e, List.getD_eq_getElem?_getD, List.getElem?_eq_getElem hlt]
          rfl
        case hS0 =>
          exact PyProof.Rows.SetOf_congr ((PyProof.Rows.setObjOf_fresh (knd := PySem.strKind P w) led).setOf (Heap.get?_push_of_some _ hS) (by unfold scanBound; omega)) (fun _ => rfl) rfl
        case hR =>
          obtain ⟨h', g', d', tk', os'⟩ := s'
          have eg : g' = s.gens := hm.gens
          have ed : d' = s.drawn := hm.drawn
          have eo : os' = s.os := hm.os
          subst eg; subst ed; subst eo
          refine wpAny_pure (show wpAny _ _ (ret Value.none) _ _ _ from wpAny_pure ⟨rfl, h', tk', rfl, hS', fun b o e => ?_⟩)
          have hb0 := Heap.lt_size e
          refine hm.heap b o (fun hmem => ?_) (Heap.get?_push_of_some _ (Heap.get?_push_of_some _ e))
          rcases List.mem_cons.mp hmem with e1 | hmem
          · exact absurd (e1 ▸ hb0) (Nat.lt_irrefl _)
          · have e1 := List.mem_singleton.mp hmem
            have e2 : s.heap.objs.size < b := by rw [e1, Heap.size_push]; exact Nat.lt_succ_self _
            exact Nat.lt_asymm hb0 e2
      · cases r₂ with
        | error e => exact hr₂
        | ok fl₂ =>
          cases fl₂ with
          | ret r =>
            obtain ⟨rfl, h', tk, rfl, hS', hk'⟩ := hr₂
            repeat (any_goals (first | assumption | wp_step))
            exact h _ _ hS' hk'
          | _ => exact hr₂.elim
    | _ => exact hr.elim
end
end DL

set_option Elab.async false
set_option maxRecDepth 100000
set_option maxHeartbeats 4000000
/-! DL21: len(set(xs)) as a reading. -/
namespace DL
open PySem PySem.Spec PyProof.Rows L2
def rLenSetT (K : PySem.W.Frag) : V → Hp → VK → Prop := fun x H1 Q => ∃ l, ∃ xs : List Str, x = .ref l ∧ SqL K H1 l (xs.map V.str) ∧ xs.length + 1 < scanBound ∧ Q (.int (distN xs : Nat)) H1
theorem pe_lenSetT {X : Cx} {a : Expr} {ta : TE} {p p2 q pos : Pos} (hc : X.calm = true) (hg : Gl X "len") (hm : X.mg "len" = none) (hg2 : Gl X "set") (hm2 : X.mg "set" = none) (ha : PE X a ta)
    (na : starEach [a] X.env = (false, eval a X.env) :: starEach [] X.env := by rfl) : PE X (.Call (.Name "len" p) [.Call (.Name "set" p2) [a] [] q] [] pos) (tUn (rLenSetT X.K) ta) := by
  refine ⟨fun pins s σ H Q I h => Call_ (ld_blt I hg hm boot_len (PyProof.Rows.callWith_builtin1 (PyProof.Rows.args_cons (Call_ (ld_blt I hg2 hm2 boot_set (PyProof.Rows.callWith_type1 (PyProof.Rows.args_cons (thn (ha.run pins s σ H _ I h) fun v s1 ⟨x, H1, I1, r1, q1⟩ => PyProof.Rows.args_nil ?_) na) na rfl))) rfl) rfl rfl))⟩
  obtain ⟨l, xs, rfl, hq, h1, q1⟩ := q1
  cases r1
  obtain ⟨its, r, pl, hz⟩ := I1.list hq
  refine call_set_strs (I1.ok.hd hc) pl.isList (by simpa using strsAre_of r) h1 fun h' tk hS hk => PyProof.Rows.args_nil ?_
  obtain ⟨o, es, ep, t, ho, hex, hd, _, _, _, hf, hn⟩ := hS
  have I2 : Inv X pins σ H1 { s1 with heap := h', toks := tk } := I1.kept hk
  have hle : distN xs ≤ xs.length := Nat.le_trans (distR_le _) (by rw [List.length_reverse]; exact Nat.le_refl _)
  have hsb : scanBound = 4096 := rfl
  exact call_len_set ho hex hd hf (by rw [hn]; omega) ⟨.int (distN xs : Nat), H1, I2.tok _, ⟨_, by rw [hn]⟩, q1⟩
def gLenSet : D → Option Z
  | .lst l => (strsD l).bind fun xs => if xs.length < 4095 then some (.d (.int (distN xs : Nat))) else none
  | _ => none
theorem o_lenSet {K : PySem.W.Frag} : Op1 K (rLenSetT K) gLenSet := fun H G x d z Q xx rx hz k => by
  cases d with
  | lst l =>
    have hz : (strsD l).bind (fun xs => if xs.length < 4095 then some (Z.d (.int (distN xs : Nat))) else none) = some z := hz
    cases q : strsD l with
    | none => rw [q] at hz; cases hz
    | some xs =>
      rw [q] at hz
      have hz : (if xs.length < 4095 then some (Z.d (.int (distN xs : Nat))) else none) = some z := hz
      by_cases hl : xs.length < 4095
      · rw [if_pos hl] at hz
        cases hz
        obtain ⟨p, vs, rfl, h1, r1⟩ := rx.lst xx
        rw [strsD_rp r1 q] at h1
        have hsb : scanBound = 4096 := rfl
        exact ⟨p, xs, rfl, SqL.of h1, by omega, k _ H ⟨rfl, .int _⟩⟩
      · rw [if_neg hl] at hz; cases hz
  | _ => cases hz
theorem d_lenSet {X : Cx} {b : Bas} {a : Expr} {ta : TD} {p p2 q pos : Pos} (hg : Gl X "len") (hm : X.mg "len" = none) (hg2 : Gl X "set") (hm2 : X.mg "set" = none) (ha : PD X b a ta) (hc : X.calm = true := by rfl)
    (na : starEach [a] X.env = (false, eval a X.env) :: starEach [] X.env := by rfl) : PD X b (.Call (.Name "len" p) [.Call (.Name "set" p2) [a] [] q] [] pos) (wUn gLenSet ta) :=
  pe_weak (pe_lenSetT hc hg hm hg2 hm2 ha na) fun _ _ _ q => un_go o_lenSet q
end DL

set_option Elab.async false
set_option maxRecDepth 100000
set_option maxHeartbeats 4000000
/-! DL22: sets of texts as tracked things. -/
namespace DL
open PySem PySem.Spec PyProof.Rows L2
def SetTO (P : Program) (w : World) (a : Addr) (S : Str → Bool) (n : Nat) : HO := .ext fun h => h.SetOf (PySem.strKind P w) a S n
theorem setTO_new {P : Program} {w : World} {H : Hp} {h : Heap} {a : Addr} {S : Str → Bool} {n : Nat} (R : h.SetOf (PySem.strKind P w) a S n) : ObjOk P w H h a (SetTO P w a S n) := by
  have ⟨o, _, _, _, ho, _⟩ := R
  exact ⟨R, ⟨o, ho⟩, fun h1 h2 p k => setOf_to p k (fun _ => rfl) rfl⟩
section
variable {X : Cx}
theorem setTO_get {pins : List (Addr × Obj)} {σ : L2.St} {H : Hp} {s : Shared} {a : Addr} {S : Str → Bool} {n : Nat} (I : Inv X pins σ H s) (ha : H a = some (SetTO X.prog X.w a S n)) : s.heap.SetOf (PySem.strKind X.prog X.w) a S n := (I.hok a _ ha).1
theorem addT_ok {pins : List (Addr × Obj)} {σ : L2.St} {H : Hp} {s : Shared} {E : Value → Shared → Prop} {D : Addr} {S : Str → Bool} {n : Nat} {y : Str} {t : Tok} {Q : Value → Shared → Prop} (I : Inv X pins σ H s) (hD : H D = some (SetTO X.prog X.w D S n)) (room : n + 1 < scanBound)
    (h : ∀ s', Inv X pins σ (upd H D (SetTO X.prog X.w D (fun j => S j || decide (j = y)) (if S y then n else n + 1))) s' → Q .none s') : wpAny (model X.prog X.w) X.A (call (.builtin "set.add") [.ref D, .str y t]) Q E s := by
  have R := setTO_get I hD
  refine wpAny_call_entry PySem.F.slot_set_add R.typeIs PySem.F.entry_set_add ?_ (PySem.F.args_set_add_2 _ _)
  unfold Builtin.«set.add» Builtin.Frozenset.oneOther
  simp only [List.isEmpty_nil, bind_assoc]
  unfold Builtin.Frozenset.addrOf setAdd
  refine wpAny_bind (wpAny_pure ?_)
  try dsimp only
  refine wpAny_bind (wpAny_pure ?_)
  try dsimp only
  refine wpAny_bind ?_
  refine wpAny_holding ?_
  refine wpAny_bind ((PySem.strKind X.prog X.w).pyHash (k := y) (strKind_is _ _ _ _) ?_)
  refine wpAny_setAddHashed_of (knd := PySem.strKind X.prog X.w) (s := { s with toks := s.toks + 1 }) (strKind_is _ _ _ _) rfl R room fun h' sb new => ?_
  show wpAny _ _ (ret Value.none) _ _ _
  have he : ∃ u, h'.get? D = some u := by
    have ⟨o, _, _, _, ho, _⟩ := new
    exact ⟨o, ho⟩
  exact wpAny_pure ⟨_, rfl, h _ (I.write (e := D) (t' := s.toks + 1) (by rw [hD]; trivial) (.inl rfl) (fun b u hb hu => (sb.2 b hb).trans hu) he (setTO_new new))⟩
end
end DL

set_option Elab.async false
set_option maxRecDepth 100000
set_option maxHeartbeats 4000000
/-! DL23: {x for target in iter if ..} over texts. -/
namespace DL
open PySem PySem.Spec PyProof.Rows L2 PpSet
section
variable {X : Cx}
abbrev SetT0 (X : Cx) (D : Addr) : HO := SetTO X.prog X.w D (fun _ => false) 0
/-- one turn of the comprehension: D the new set -/
def TurnT (X : Cx) (g : TG) (tt : TT) (te : TE) (vs : List Nat) (σ : L2.St) (D : Addr) (x : V) (H' : Hp) (Nx : Hp → Prop) : Prop := g x (wipe σ vs) H' fun σ2 H2 => wipe σ2 vs = wipe σ vs ∧ tt σ2 H2 fun b H3 =>
  if b = true then te σ2 H3 fun y H4 => ∃ (c : Str) (S : Str → Bool) (n : Nat), y = .str c ∧ H4 D = some (SetTO X.prog X.w D S n) ∧ n + 1 < scanBound ∧ Nx (upd H4 D (SetTO X.prog X.w D (fun j => S j || decide (j = c)) (if S c then n else n + 1))) else Nx H3
def tScT (X : Cx) (wi : TI) (g : TG) (tt : TT) (te : TE) (vs : List Nat) : TE := fun σ H Q => wi σ H fun J H1 => ∀ D, H1 D = none → ∃ W : Nat → Nat → Hp → Prop, (∃ m, W 0 m (upd H1 D (SetT0 X D))) ∧ ∀ i m H, W i m H →
  (J.stop i H ∧ Q (.ref D) H) ∨ (J.go i H ∧ ∃ Nx : Hp → Prop, (∀ H', Nx H' → ∃ m', m' < m ∧ W (i + 1) m' H') ∧ ∀ x H', J.yld i H x H' → TurnT X g tt te vs σ D x H' Nx)
theorem scT_core {pins : List (Addr × Obj)} {s : Shared} {σ : L2.St} {H : Hp} {Q : VK} {elt tg iter : Expr} {ifs : List Expr} {scope : Scope} {own : List (Str × Nat)} {pos pos' : Pos} {wi : TI} {g : TG} {tt : TT} {te : TE} {use : Option (Value → Sem Unit)} {Qf : Value → Shared → Prop}
    (hc : X.calm = true) (hN : X.N.Nodup) (I : Inv X pins σ H s) (hi : PI X tg iter wi) (ok : BlkOk X.N X.env.scope scope own)
    (hg : Blk X scope fun Y => PG Y tg g) (ht : Blk X scope fun Y => PTs Y ifs tt) (he : Blk X scope fun Y => PE Y elt te) (hs : ∀ x, foldedSetIterable iter X.env x = pure x)
    (h : tScT X wi g tt te (own.map (·.2)) σ H Q)
    (hRR : ∀ D C s' m H', Inv X pins σ H' s' → Q (.ref D) H' → s'.heap.Ns C m → FpOk X pins H' C → compPost (model X.prog X.w) X.A X.xe use Qf (.ref D) C (.ok .next) s') :
    wpAny (model X.prog X.w) X.A (comprehension (.SetComp elt [⟨tg, iter, ifs, 0⟩] scope pos) scope X.env pos' (newSet (.type "set")) false (eval iter X.env) use) Qf X.xe s := by
  have hfree : ∀ y ∈ scope.names, y.2 = .free → ∃ c, X.env.cells.lookup y.1 = some c := fun y hy e => by
    rcases ok.free y hy e with k | k
    · exact I.ok.has _ (.inl k)
    · exact I.ok.has _ (.inr k)
  refine wpAny_comprehension_free (use := use) rfl hs (closure_ok hfree) ok.kind (fun y hy e => by rw [ok.uniq y hy, e])
    (thn (hi.run pins s σ H _ I h) fun xv s1 hx => thn hx fun itv s2 h2 => ?_)
  obtain ⟨it, fp, tn, J, H2, e, I2, T, st2, f2, q⟩ := h2
  subst e
  refine newSet_ok (newEnv_comp ?_)
  generalize hD : s2.heap.objs.size = D
  obtain ⟨W, ⟨m0, w0⟩, turn⟩ := q D (I2.hok.fresh (Nat.le_of_eq hD))
  generalize hs3 : ({ s2 with heap := s2.heap.push { cls := .type "set", dict := none, data := .set #[] 0 (.fresh 0 0 (!X.w.params.followText "set-order")) } } : Shared) = s3
  have h3 : s3.heap = s2.heap.push { cls := .type "set", dict := none, data := .set #[] 0 (.fresh 0 0 (!X.w.params.followText "set-order")) } := by rw [← hs3]
  have I3 : Inv X pins σ (upd H2 D (SetT0 X D)) s3 := by
    rw [← hs3]
    refine I2.laid (t' := s2.toks) (fun b o e => Heap.get?_push_of_some _ e) (Nat.le_of_eq hD) ?_
    rw [← hD]
    exact setTO_new ((PyProof.Rows.setObjOf_fresh (knd := PySem.strKind X.prog X.w) _).setOf (Heap.get?_push_size _ rfl) (by unfold scanBound; omega))
  have sz : ∀ b ∈ fp, b < s2.heap.objs.size := fun b hb => by
    obtain ⟨o, e, _⟩ := T.obj _ _ st2 b hb
    exact Heap.lt_size e
  have f3 : ∀ b ∈ fp, FpOk X pins (upd H2 D (SetT0 X D)) b ∧ b < s3.heap.objs.size := fun b hb => by
    refine ⟨⟨?_, (f2 b hb).2⟩, by rw [h3, Heap.size_push]; exact Nat.lt_succ_of_lt (sz b hb)⟩
    rw [upd_ne (by rw [← hD]; exact Nat.ne_of_lt (sz b hb))]
    exact (f2 b hb).1
  have st3 : tn 0 s3.heap := T.keep _ _ _ st2 fun b _ o e => by rw [h3]; exact Heap.get?_push_of_some _ e
  have I4 := block_start I3 ok hN f3
  have nfp : ∀ b ∈ fp, (upd H2 D (SetT0 X D)) b = none := fun b hb => (f3 b hb).1.1
  generalize hH3 : upd H2 D (SetT0 X D) = H3 at I3 I4 w0 nfp f3
  generalize hcl : cellsFrom (s3.heap.objs.size + 1) scope.names (cloFrom X.env.cells scope.names []) = cl at I4 ⊢
  have pg := hg s3 H3 s3.heap.objs.size cl fp
  have pt := ht s3 H3 s3.heap.objs.size cl fp
  have pe := he s3 H3 s3.heap.objs.size cl fp
  show codeAny _ _ (.compStart (.SetComp elt [⟨tg, iter, ifs, 0⟩] scope pos) 0 (.ref it) (.ref D) (compEnvC scope cl s3.heap.objs.size X.env)) (compPost (model X.prog X.w) X.A X.xe use Qf (.ref D) s3.heap.objs.size) { s3 with heap := pushCells (s3.heap.push { cls := .type "dict", data := .dict #[] }) scope.names }
  generalize hce : compEnvC scope cl s3.heap.objs.size X.env = ce at I4 pg pt pe ⊢
  have cL : ce.locals = s3.heap.objs.size := by subst hce; rfl
  generalize hs4 : ({ s3 with heap := pushCells (s3.heap.push { cls := .type "dict", data := .dict #[] }) scope.names } : Shared) = s4 at I4 ⊢
  have st4 : tn 0 s4.heap := T.keep _ _ _ st3 fun b _ o e => by rw [← hs4]; exact pushCells_keeps _ _ _ _ (Heap.get?_push_of_some _ e)
  have stat : ∀ {σ' : L2.St} {H' : Hp} {s' : Shared}, Inv (X.blk s3 H3 scope ce fp) [] σ' H' s' → (∀ b ∈ fp, H' b = none) → ∀ b ∈ fp, FpOk (X.blk s3 H3 scope ce fp) [] H' b := fun {σ' H' s'} I' hn b hb =>
    ⟨hn b hb, (I'.ok.exf b hb).1, I'.ok.exfs b hb, .inl hb, fun x c e => (I'.ok.exf b hb).2 x c e, fun p hp => absurd (show p ∈ ([] : List (Addr × Obj)) ++ [] from hp) (by simp)⟩
  have loop : codeAny (model X.prog X.w) X.A (.compLoop (.SetComp elt [⟨tg, iter, ifs, 0⟩] scope pos) 0 (.ref it) (.ref D) ce) (compPost (model X.prog X.w) X.A X.xe use Qf (.ref D) s3.heap.objs.size) s4 := by
    refine compLoopS_any (fun n s' => ∃ i H', Inv (X.blk s3 H3 scope ce fp) [] (wipe σ (own.map (·.2))) H' s' ∧ tn i s'.heap ∧ (∀ b ∈ fp, H' b = none) ∧ W i n H') ?_ m0 ⟨0, H3, I4, st4, nfp, w0⟩
    rintro n s5 ⟨i, H5, I5, st5, n5, w5⟩
    rcases turn i n H5 w5 with ⟨stop, qq⟩ | ⟨go, Nx, hNx, step⟩
    · refine thnF (T.done (X.blk s3 H3 scope ce fp) rfl rfl rfl hc i [] s5 _ H5 (fun _ _ => False) I5 (stat I5 n5) st5 stop) fun r s6 ⟨hr, I6⟩ => ?_
      subst hr
      have nC : H5 s3.heap.objs.size = none := by rw [← cL]; exact I6.free
      obtain ⟨m, hn, _⟩ := I6.loc
      have hn : s6.heap.Ns ce.locals m := hn
      rw [cL] at hn
      exact hRR D s3.heap.objs.size s6 m H5 (I3.call' (ch := fp) I6.os I6.base I6.hok I6.bare fun b hb => ⟨(f3 b hb).1.2.2.2.1, (f3 b hb).1.2.1, (f3 b hb).1.2.2.2.2.1, (f3 b hb).1.2.2.2.2.2⟩) qq hn (I3.fpOk (Nat.le_refl _) nC)
    · refine thnF (T.item (X.blk s3 H3 scope ce fp) rfl rfl rfl hc i [] s5 _ H5 (fun _ _ => False) I5 (stat I5 n5) st5 go) fun r s6 ⟨u, hr, h6⟩ => ?_
      subst hr
      refine thnF h6 fun _ s7 ⟨x, H7, I7, r7, y7, st7, n7⟩ => ?_
      refine thnF (pg.run _ s7 _ H7 x u _ (I7.pinned (stat I7 n7) (T.obj _ _ st7)) r7 (step x H7 y7)) fun _ s8 ⟨σ8, H8, I8, hw8, q8⟩ => ?_
      refine thnF (pt.run _ s8 σ8 H8 _ I8 q8) fun b s9 ⟨H9, I9, q9⟩ => ?_
      have fin : ∀ {s' : Shared} {H' : Hp}, Inv (X.blk s3 H3 scope ce fp) ([] ++ pinsAt fp s7.heap) σ8 H' s' → Nx H' → ∃ m, m < n ∧ ∃ i H', Inv (X.blk s3 H3 scope ce fp) [] (wipe σ (own.map (·.2))) H' s' ∧ tn i s'.heap ∧ (∀ b ∈ fp, H' b = none) ∧ W i m H' := fun {s' H'} I' nx => by
        obtain ⟨m', hm, w'⟩ := hNx H' nx
        have pin' : ∀ b ∈ fp, ∀ o, s7.heap.get? b = some o → s'.heap.get? b = some o ∧ H' b = none := fun b hb o e =>
          let z := I'.pin (b, o) (List.mem_append_right _ (List.mem_append_right _ (mem_pinsAt hb e)))
          ⟨z.1, z.2.1⟩
        refine ⟨m', hm, i + 1, H', (I'.unpinned (pins := [])).weak (by rw [← hw8, wipe_length]) (fun j v e => ?_), T.keep _ _ _ st7 fun b hb o e => (pin' b hb o e).1, fun b hb => ?_, w'⟩
        · rw [← hw8] at e
          exact (wipe_some e).1
        · obtain ⟨o, e, _⟩ := T.obj _ _ st7 b hb
          exact (pin' b hb o e).2
      cases b with
      | false =>
        simp only [Bool.false_eq_true, if_false] at q9 ⊢
        exact fin I9 q9
      | true =>
        simp only [if_true] at q9 ⊢
        refine thnF (pe.run _ s9 σ8 H9 _ I9 q9) fun z s10 ⟨yv, H10, I10, r10, cb, S0, n0, ey, hD10, hz10, nx⟩ => ?_
        subst ey
        obtain ⟨t10, rfl⟩ := r10
        exact addT_ok (X := X.blk s3 H3 scope ce fp) I10 hD10 hz10 fun s11 I11 => fin I11 nx
  exact codeAny_compStart_set loop (T.self X.A 0 _ _ _ st4 loop)
theorem pe_scT {elt tg iter : Expr} {ifs : List Expr} {scope : Scope} {own : List (Str × Nat)} {pos : Pos} {wi : TI} {g : TG} {tt : TT} {te : TE} (hc : X.calm = true) (hN : X.N.Nodup) (hi : PI X tg iter wi) (ok : BlkOk X.N X.env.scope scope own)
    (hg : Blk X scope fun Y => PG Y tg g) (ht : Blk X scope fun Y => PTs Y ifs tt) (he : Blk X scope fun Y => PE Y elt te) (hs : ∀ x, foldedSetIterable iter X.env x = pure x := by intro _; rfl) :
    PE X (.SetComp elt [⟨tg, iter, ifs, 0⟩] scope pos) (tScT X wi g tt te (own.map (·.2))) := by
  refine ⟨fun pins s σ H Q I h => ?_⟩
  rw [eval_SetComp]
  refine scT_core hc hN I hi ok hg ht he hs h fun D C s' m H' I' q hn f => ⟨m, hn, fun h'' sb => ?_⟩
  obtain ⟨f0, f1, f2, f3, f4, f5⟩ := f
  exact ⟨.ref D, H', I'.turned (t' := s'.toks) (fun b o hb e => (sb.2 b hb).trans e) f0 f1 f3 f4 f5, rfl, q⟩
end
end DL

set_option Elab.async false
set_option maxRecDepth 100000
set_option maxHeartbeats 4000000
/-! DL24: len({x for ..}) over texts, as a reading. -/
namespace DL
open PySem PySem.Spec PyProof.Rows L2 PpSet
theorem setT0_eq {X : Cx} {D : Addr} : some (SetT0 X D) = some (SetTO X.prog X.w D (fun j => decide (j ∈ ([] : List Str))) (distN [])) := rfl
theorem setT_add {X : Cx} {D : Addr} {acc : List Str} {c : Str} : some (SetTO X.prog X.w D (fun j => decide (j ∈ acc) || decide (j = c)) (if decide (c ∈ acc) = true then distN acc else distN acc + 1)) = some (SetTO X.prog X.w D (fun j => decide (j ∈ acc ++ [c])) (distN (acc ++ [c]))) := by
  have e1 : (fun j => decide (j ∈ acc) || decide (j = c)) = fun j => decide (j ∈ acc ++ [c]) := funext fun j => by simp [List.mem_append]
  have e2 : (if decide (c ∈ acc) = true then distN acc else distN acc + 1) = distN (acc ++ [c]) := by
    show _ = distR (acc ++ [c]).reverse
    rw [List.reverse_append]
    show _ = (if c ∈ acc.reverse then distR acc.reverse else distR acc.reverse + 1)
    by_cases h : c ∈ acc
    · rw [if_pos (by simpa using h), if_pos (List.mem_reverse.mpr h)]; rfl
    · rw [if_neg (by simpa using h), if_neg (fun q => h (List.mem_reverse.mp q))]; rfl
  rw [e1, e2]
def compT (g : GD) (tt : TTD) (te : TD) (vs : List Nat) : List D → List Str → Rho → (List Str → Rho → Prop) → Prop
  | [], acc, ρ, Q => Q acc ρ
  | d :: ds, acc, ρ, Q => g d ρ fun ρ1 => tt ρ1 fun c ρ2 => if c = true then te ρ2 fun r ρ3 => lk (con ρ3 r) fun e => match e with
    | .str x => acc.length + 1 ≤ 4000 ∧ compT g tt te vs ds (acc ++ [x]) (wipR ρ3 vs) Q
    | _ => False else compT g tt te vs ds acc (wipR ρ2 vs) Q
def wScLen (ks : List Nat) (ti : TID) (g : GD) (tt : TTD) (te : TD) (vs : List Nat) : TD := fun ρ Q => ti ρ fun ds ρ1 => (∀ v ∈ vs, v ∉ ks ∧ ∀ o, ρ1[v]? ≠ some (.own o)) ∧ compT g tt te vs ds [] (wipR ρ1 vs) fun acc ρ2 => Q (.dat (.int (distN acc : Nat))) (unw vs ρ1 ρ2)
theorem sc_go {X : Cx} {b : Bas} {ks is vs : List Nat} {ti : TID} {g : GD} {tt : TTD} {te : TD} (hk : b.kp.map (·.1) = ks) (hi : ∀ i ∈ is, i ∈ vs) {σ : L2.St} {H : Hp} {Q : VK} (q : lift X.K b (wScLen ks ti g tt te vs) σ H Q) :
    tScT X (liftI X.K b ti) (liftG X.K b is g) (liftT X.K b tt) (lift X.K b te) vs σ H (fun x H1 => ∃ D S n, x = .ref D ∧ H1 D = some (SetTO X.prog X.w D S n) ∧ n < scanBound ∧ Q (.int (n : Nat)) H1) := by
  obtain ⟨G, ρ, QD, w, q, k⟩ := q
  refine ⟨G, ρ, _, w, q, fun J H1 G1 ds ρ1 w1 m1 it z D hD => ?_⟩
  obtain ⟨hv, z⟩ := z
  have hkv : ∀ p ∈ b.kp, p.1 ∉ vs := fun p hp h => (hv p.1 h).1 (by rw [← hk]; exact List.mem_map_of_mem hp)
  have ww := w1.wipe hkv
  have hBD : b.B D = none := w1.bas.gone hD
  refine ⟨fun i m Hh => m = ds.length - i ∧ ∃ G2 ρ2 acc, Rel X.K b (L2.wipe σ vs) Hh G2 ρ2 ∧ Fm (L2.wipe σ vs) (wipR ρ1 vs) H1 G1 ρ2 Hh G2 ∧ Hh D = some (SetTO X.prog X.w D (fun j => decide (j ∈ acc)) (distN acc)) ∧ G2 D = none ∧ acc.length ≤ 4000 ∧ (∀ v ∈ vs, ∀ s, ρ2[v]? = some s → s = .no) ∧
    compT g tt te vs (ds.drop i) acc ρ2 (fun acc ρ2 => QD (.dat (.int (distN acc : Nat))) (unw vs ρ1 ρ2)), ⟨ds.length, (Nat.sub_zero _).symm, G1, wipR ρ1 vs, [], ww.new hD, ww.newF hD, upd_same.trans setT0_eq, w1.sub.gone hD, Nat.zero_le _, fun v h s e => wipR_in ρ1 h e, z⟩, fun i m H2 q2 => ?_⟩
  obtain ⟨rfl, G2, ρ2, acc, w2, m2, hD2, gD2, ra, nv, z2⟩ := q2
  have un2 : ∀ {ρ3 : Rho}, (∀ (j : Nat) (o : Own), ρ3[j]? = some (.own o) → ∃ o', (wipR ρ1 vs)[j]? = some (.own o')) → ∀ (j : Nat) (o : Own), ρ3[j]? = some (.own o) → (L2.wipe σ vs)[j]? ≠ some (some (.ref D)) := fun {ρ3} h j o e y => by
    obtain ⟨o', e'⟩ := h j o e
    exact ww.apart hD j o' e' y
  cases e : ds[i]? with
  | none =>
    have hl : ds.length ≤ i := List.getElem?_eq_none_iff.mp e
    rw [List.drop_eq_nil_of_le hl] at z2
    have x2 := m2.ex
    have w3 := Rel.unwipe w1 w2 x2 (fun v h => (hv v h).2) hkv
    have owv : ∀ (j : Nat) (o : Own), (unw vs ρ1 ρ2)[j]? = some (.own o) → j ∉ vs ∧ ρ2[j]? = some (.own o) := fun j o e => by
      by_cases h : j ∈ vs
      · rcases unw_in ρ1 ρ2 h e with z | z
        · cases z
        · exact absurd z ((hv j h).2 o)
      · rw [unw_out ρ1 ρ2 h] at e; exact ⟨h, e⟩
    have m3 : Fm σ ρ1 H1 G1 (unw vs ρ1 ρ2) H2 G2 := by
      refine ⟨x2, fun a o h n => m2.kp a o h fun j o' y => ?_, fun j o y => ?_, m2.dm⟩
      · have hj : j ∉ vs := fun hj => by have := wipR_in ρ1 hj y; cases this
        rw [wipR_out ρ1 hj] at y
        rw [wipe_at, if_neg hj]
        exact n j o' y
      · obtain ⟨hj, y⟩ := owv j o y
        obtain ⟨o', y⟩ := m2.ow j o y
        rw [wipR_out ρ1 hj] at y
        exact ⟨o', y⟩
    have hle : distN acc ≤ acc.length := Nat.le_trans (distR_le _) (by rw [List.length_reverse]; exact Nat.le_refl _)
    have hsb : scanBound = 4096 := rfl
    exact .inl ⟨(it i H2 G2 x2 w2.sub).2 hl, D, _, _, rfl, hD2, by omega, k (.int (distN acc : Nat)) H2 G2 (.dat (.int (distN acc : Nat))) _ w3 (m1.trans m3) (.int _) z2⟩
  | some d =>
    rw [drop_at e] at z2
    obtain ⟨g1, g2⟩ := (it i H2 G2 m2.ex w2.sub).1 d e
    have hl : i < ds.length := (List.getElem?_eq_some_iff.mp e).1
    -- what a turn is to reach
    refine .inr ⟨g1, fun Hh => ∃ G2 ρ2 acc, Rel X.K b (L2.wipe σ vs) Hh G2 ρ2 ∧ Fm (L2.wipe σ vs) (wipR ρ1 vs) H1 G1 ρ2 Hh G2 ∧ Hh D = some (SetTO X.prog X.w D (fun j => decide (j ∈ acc)) (distN acc)) ∧ G2 D = none ∧ acc.length ≤ 4000 ∧ (∀ v ∈ vs, ∀ s, ρ2[v]? = some s → s = .no) ∧
      compT g tt te vs (ds.drop (i + 1)) acc ρ2 (fun acc ρ2 => QD (.dat (.int (distN acc : Nat))) (unw vs ρ1 ρ2)), fun H' h => ⟨ds.length - (i + 1), by omega, rfl, h⟩, fun x H' y => ?_⟩
    obtain ⟨zz, ez, o⟩ := g2 x H' y
    obtain ⟨G3, w3, m3, q3⟩ := o.go w2
    rw [ez] at q3
    refine ⟨G3, ρ2, d, _, w3, q3, z2, fun σ4 ρ4 w4 len4 out4 outr4 own4 z4 => ?_⟩
    have ew : L2.wipe σ4 vs = L2.wipe σ vs := by
      refine List.ext_getElem? fun j => ?_
      rw [wipe_at, wipe_at]
      by_cases hj : j ∈ vs
      · rw [if_pos hj, if_pos hj]
        have l1 : σ4.length = σ.length := by rw [len4, wipe_length]
        by_cases hl : j < σ.length
        · rw [List.getElem?_eq_getElem hl, List.getElem?_eq_getElem (by omega)]; rfl
        · rw [List.getElem?_eq_none (by omega), List.getElem?_eq_none (by omega)]
      · rw [if_neg hj, if_neg hj, out4 j fun h => hj (hi j h), wipe_at, if_neg hj]
    refine ⟨ew, G3, ρ4, _, w4, z4, fun c H5 G5 ρ5 w5 m5 z5 => ?_⟩
    -- the frame's memory over the block
    have conv : ∀ {H6 G6 : Hp} {ρ6 : Rho}, Fm σ4 ρ4 H' G3 ρ6 H6 G6 → Fm (L2.wipe σ vs) ρ2 H' G3 ρ6 H6 G6 := fun {H6 G6 ρ6} m => by
      refine ⟨m.ex, fun a o h n => m.kp a o h fun j o' y => ?_, fun j o y => ?_, m.dm⟩
      · have y2 := own4 j o' y
        have hj : j ∉ vs := fun hj => by have := nv j hj _ y2; cases this
        rw [out4 j fun h => hj (hi j h)]
        exact n j o' y2
      · obtain ⟨o', y⟩ := m.ow j o y
        exact ⟨o', own4 j o' y⟩
    have fin : ∀ {H6 G6 : Hp} {ρ6 : Rho} {acc' : List Str}, Rel X.K b σ4 H6 G6 ρ6 → Fm (L2.wipe σ vs) (wipR ρ1 vs) H1 G1 ρ6 H6 G6 → H6 D = some (SetTO X.prog X.w D (fun j => decide (j ∈ acc')) (distN acc')) → G6 D = none → acc'.length ≤ 4000 →
        compT g tt te vs (ds.drop (i + 1)) acc' (wipR ρ6 vs) (fun acc ρ2 => QD (.dat (.int (distN acc : Nat))) (unw vs ρ1 ρ2)) → ∃ G2 ρ2 acc, Rel X.K b (L2.wipe σ vs) H6 G2 ρ2 ∧ Fm (L2.wipe σ vs) (wipR ρ1 vs) H1 G1 ρ2 H6 G2 ∧ H6 D = some (SetTO X.prog X.w D (fun j => decide (j ∈ acc)) (distN acc)) ∧ G2 D = none ∧ acc.length ≤ 4000 ∧ (∀ v ∈ vs, ∀ s, ρ2[v]? = some s → s = .no) ∧
          compT g tt te vs (ds.drop (i + 1)) acc ρ2 (fun acc ρ2 => QD (.dat (.int (distN acc : Nat))) (unw vs ρ1 ρ2)) := fun {H6 G6 ρ6 acc'} w6 m6 h1 h2 h3 h4 => by
      have w7 := w6.wipe (vs := vs) hkv
      rw [ew] at w7
      refine ⟨G6, wipR ρ6 vs, acc', w7, ⟨m6.ex, m6.kp, fun j o y => ?_, m6.dm⟩, h1, h2, h3, fun v h s e => wipR_in ρ6 h e, h4⟩
      have hj : j ∉ vs := fun hj => by have := wipR_in ρ6 hj y; cases this
      rw [wipR_out ρ6 hj] at y
      exact m6.ow j o y
    have keepD : ∀ {Ha Ga Hb Gb : Hp} {ρa ρb : Rho}, Fm (L2.wipe σ vs) ρa Ha Ga ρb Hb Gb → (∀ (j : Nat) (o : Own), ρa[j]? = some (.own o) → ∃ o', (wipR ρ1 vs)[j]? = some (.own o')) → Ha D = some (SetTO X.prog X.w D (fun j => decide (j ∈ acc)) (distN acc)) → Ga D = none → Hb D = some (SetTO X.prog X.w D (fun j => decide (j ∈ acc)) (distN acc)) ∧ Gb D = none := fun {Ha Ga Hb Gb ρa ρb} m h h1 h2 => by
      obtain ⟨y1, y2⟩ := m.kp D _ h1 (un2 h)
      exact ⟨y1, y2 h2⟩
    obtain ⟨hD3, gD3⟩ := keepD m3 m2.ow hD2 gD2
    have m23 := m2.trans m3
    have m5' := conv m5
    obtain ⟨hD5, gD5⟩ := keepD m5' m2.ow hD3 gD3
    cases c with
    | false =>
      exact iteF (fin w5 (m23.trans m5') hD5 gD5 ra z5)
    | true =>
      refine iteT ⟨G5, ρ5, _, w5, z5, fun u H6 G6 r ρ6 w6 m6 q6 z6 => ?_⟩
      obtain ⟨dd, e6, z6⟩ := lk_get z6
      have m56 := m5.trans m6
      have rc := q6.rc w6 e6
      cases dd <;> try exact z6.elim
      rename_i c
      obtain ⟨hz, z6⟩ := z6
      have m7' := conv m56
      obtain ⟨hD7, gD7⟩ := keepD m7' m2.ow hD3 gD3
      have hle : distN acc ≤ acc.length := Nat.le_trans (distR_le _) (by rw [List.length_reverse]; exact Nat.le_refl _)
      have hsb : scanBound = 4096 := rfl
      refine ⟨c, _, _, rc.str, hD7, by omega, ?_⟩
      have un7 : ∀ (j : Nat) (o : Own), ρ6[j]? = some (.own o) → σ4[j]? ≠ some (some (.ref D)) := fun j o y => by
        obtain ⟨o4, y4⟩ := m56.ow j o y
        have y2 := own4 j o4 y4
        have hj : j ∉ vs := fun hj => by have := nv j hj _ y2; cases this
        rw [out4 j fun h => hj (hi j h)]
        exact un2 m2.ow j o4 y2
      have m8 : Fm (L2.wipe σ vs) (wipR ρ1 vs) H1 G1 ρ6 (upd H6 D (SetTO X.prog X.w D (fun j => decide (j ∈ acc) || decide (j = c)) (if decide (c ∈ acc) = true then distN acc else distN acc + 1))) G6 := by
        have m9 := m23.trans m7'
        refine ⟨m9.ex, fun a o h n => ?_, m9.ow, fun a h => ?_⟩
        · obtain ⟨y1, y2⟩ := m9.kp a o h n
          exact ⟨by rw [upd_ne (ne_of_none h hD)]; exact y1, y2⟩
        · by_cases ha : a = D
          · subst ha; exact hD
          · rw [upd_ne ha] at h; exact m9.dm a h
      exact fin (w6.touch hD7 gD7 hBD un7) m8 (upd_same.trans setT_add) gD7 (by rw [List.length_append]; exact hz) z6
end DL

set_option Elab.async false
set_option maxRecDepth 100000
set_option maxHeartbeats 4000000
/-! DL25: len({x for ..}). -/
namespace DL
open PySem PySem.Spec PyProof.Rows L2 PpSet
section
variable {X : Cx}
def rLenTO (X : Cx) : List V → Hp → VK → Prop := fun xs H Q => ∃ D S n, xs = [.ref D] ∧ H D = some (SetTO X.prog X.w D S n) ∧ n < scanBound ∧ Q (.int (n : Nat)) H
theorem call_lenTO : CallR X (.builtin "len") (rLenTO X) := by
  intro pins s σ H xs us Q I r h
  obtain ⟨D, S, n, rfl, hD, hn, q⟩ := h
  obtain ⟨u, rfl, rx⟩ := vals1 r
  cases rx
  obtain ⟨o, es, ep, t, ho, hex, hd, _, _, _, hf, hs⟩ := setTO_get I hD
  have hsb : scanBound = 4096 := rfl
  exact call_len_set ho hex hd hf (by rw [hs]; omega) ⟨.int (n : Nat), H, I.tok _, ⟨_, by rw [hs]⟩, q⟩
variable {b : Bas} {ks is : List Nat}
theorem d_scLen {elt tg iter : Expr} {ifs : List Expr} {scope : Scope} {own : List (Str × Nat)} {p pos q : Pos} {ti : TID} {g : GD} {tt : TTD} {te : TD} (hg1 : Gl X "len") (hm1 : X.mg "len" = none) (hk : b.kp.map (·.1) = ks) (hi : ∀ i ∈ is, i ∈ own.map (·.2)) (hc : X.calm = true) (hN : X.N.Nodup) (h : PI X tg iter (liftI X.K b ti)) (ok : BlkOk X.N X.env.scope scope own)
    (hg : Blk X scope fun Y => PG Y tg (liftG X.K b is g)) (ht : Blk X scope fun Y => PTs Y ifs (liftT X.K b tt)) (he : Blk X scope fun Y => PE Y elt (lift X.K b te)) (hs : ∀ x, foldedSetIterable iter X.env x = pure x := by intro _; rfl)
    (na : starEach [.SetComp elt [⟨tg, iter, ifs, 0⟩] scope pos] X.env = (false, eval (.SetComp elt [⟨tg, iter, ifs, 0⟩] scope pos) X.env) :: starEach [] X.env := by rfl) :
    PD X b (.Call (.Name "len" p) [.SetComp elt [⟨tg, iter, ifs, 0⟩] scope pos] [] q) (wScLen ks ti g tt te (own.map (·.2))) := by
  refine ⟨fun pins s σ H Q I q => ?_⟩
  refine Call_ (ld_blt I hg1 hm1 boot_len (PyProof.Rows.callWith_builtin1 (PyProof.Rows.args_cons (thn ((pe_scT hc hN h ok hg ht he hs).run pins s σ H _ I (sc_go hk hi q)) fun v s1 ⟨x, H1, I1, r1, q1⟩ => PyProof.Rows.args_nil ?_) na) na rfl))
  obtain ⟨D, S, n, rfl, hD, hn, q1⟩ := q1
  cases r1
  exact call_lenTO pins s1 σ H1 [.ref D] [.ref D] Q I1 (.cons rfl .nil) ⟨D, S, n, rfl, hD, hn, q1⟩
end
end DL

set_option Elab.async false
set_option maxRecDepth 100000
/-! DL26: boot facts; a comprehension within a comprehension. -/
namespace DL
open PySem PySem.Spec PyProof.Rows L2
theorem bt_all : bootBuiltins "all" = some (.builtin "all") := by decide +kernel
theorem bt_min : bootBuiltins "min" = some (.builtin "min") := by decide +kernel
theorem bt_max : bootBuiltins "max" = some (.builtin "max") := by decide +kernel
theorem relab_look {y : Str} {c : Str → Bool} : ∀ {l : List (Str × NameKind)}, l.lookup y = some .cell ∨ l.lookup y = some .free →
    (l.map fun p => if (p.2 == .free && c p.1) then (p.1, NameKind.cell) else (p.1, p.2)).lookup y = some .cell ∨ (l.map fun p => if (p.2 == .free && c p.1) then (p.1, NameKind.cell) else (p.1, p.2)).lookup y = some .free
  | [], h => by rcases h with h | h <;> cases h
  | (n, k) :: l, h => by
    rw [List.map_cons]
    cases q : y == n with
    | true =>
      have e : List.lookup y ((n, k) :: l) = some k := by rw [List.lookup_cons, q]
      rw [e] at h
      by_cases hc : (k == .free && c n) = true
      · rw [if_pos hc, List.lookup_cons, q]; exact .inl rfl
      · rw [if_neg hc, List.lookup_cons, q]; exact h
    | false =>
      have e : List.lookup y ((n, k) :: l) = List.lookup y l := by rw [List.lookup_cons, q]
      rw [e] at h
      have ih := relab_look (c := c) h
      by_cases hc : (k == .free && c n) = true
      · rw [if_pos hc, List.lookup_cons, q]; exact ih
      · rw [if_neg hc, List.lookup_cons, q]; exact ih
theorem blk_okN {N : List Str} {sc scope : Scope} {e : Env} {own : List (Str × Nat)} (h : blkB N sc scope own = true) : BlkOk N (relabel sc e) scope own := by
  have h := of_decide_eq_true h
  refine ⟨h.1, h.2.1, h.2.2.1, fun y hy hf => ?_, h.2.2.2.2⟩
  have g := relab_look (c := fun n => e.scope.kind == .function && e.kindOf n == some .cell) (h.2.2.2.1 y hy hf)
  simp only [relabel]
  simpa only [Bool.and_assoc] using g
end DL

set_option Elab.async false
set_option maxRecDepth 100000
set_option maxHeartbeats 4000000
/-! DL27: the readings of DL17 .. DL25, run from the head. -/
namespace DL
open PySem PySem.Spec PyProof.Rows L2
section
variable {ρ ρ1 ρ2 : Rho} {Q : R → Rho → Prop} {QI : List D → Rho → Prop} {QS : List Str → Rho → Prop} {r : R} {rs : List R} {d e : D} {ds l m : List D} {ks vs : List Nat} {ta tb : TD} {tA : TAD} {t : TTD} {g : GD} {ti : TID} {gm : Str → D → Option Z} {a x : Str} {acc : List Str} {c : Bool} {z : Z}
def kI2 (QI : List D → Rho → Prop) (ρ : Rho) (d : D) : Prop := match d with
  | .str x => QI (signsD x) ρ
  | _ => False
def kI1 (QI : List D → Rho → Prop) (r : R) (ρ : Rho) : Prop := lk (con ρ r) (kI2 QI ρ)
theorem e_itT2 : wItT2 ta ρ QI = ta ρ (kI1 QI) := rfl
theorem k_i1 : kI1 QI r ρ = lk (con ρ r) (kI2 QI ρ) := rfl
theorem k_i2 : kI2 QI ρ (.str x) = QI (signsD x) ρ := rfl
def kM4 (Q : R → Rho → Prop) (ρ : Rho) (z : Z) : Prop := Q z.r ρ
def kM3 (g : Str → D → Option Z) (Q : R → Rho → Prop) (a : Str) (ρ : Rho) (d : D) : Prop := lk (g a d) (kM4 Q ρ)
def kM2 (g : Str → D → Option Z) (Q : R → Rho → Prop) (a : Str) (r : R) (ρ : Rho) : Prop := lk (con ρ r) (kM3 g Q a ρ)
def kM1b (g : Str → D → Option Z) (tb : TD) (Q : R → Rho → Prop) (ρ : Rho) (d : D) : Prop := match d with
  | .str a => tb ρ (kM2 g Q a)
  | _ => False
def kM1 (g : Str → D → Option Z) (tb : TD) (Q : R → Rho → Prop) (r : R) (ρ : Rho) : Prop := lk (con ρ r) (kM1b g tb Q ρ)
theorem e_m1 : wM1 gm ta tb ρ Q = ta ρ (kM1 gm tb Q) := rfl
theorem k_m1 : kM1 gm tb Q r ρ = lk (con ρ r) (kM1b gm tb Q ρ) := rfl
theorem k_m1b : kM1b gm tb Q ρ (.str a) = tb ρ (kM2 gm Q a) := rfl
theorem k_m2 : kM2 gm Q a r ρ = lk (con ρ r) (kM3 gm Q a ρ) := rfl
theorem k_m3 : kM3 gm Q a ρ d = lk (gm a d) (kM4 Q ρ) := rfl
theorem k_m4 : kM4 Q ρ z = Q z.r ρ := rfl
def kZ1 (ks : List Nat) (QI : List D → Rho → Prop) (rs : List R) (ρ : Rho) : Prop := lk (frzs ks rs ρ) fun p => match p.1 with
  | [x, y] => lk (listD x) fun l => lk (listD y) fun m => QI (zipD l m) p.2
  | _ => False
theorem e_itZ : wItZ ks tA ρ QI = tA ρ (kZ1 ks QI) := rfl
theorem k_z1 : kZ1 ks QI rs ρ = lk (frzs ks rs ρ) fun p => match p.1 with
  | [x, y] => lk (listD x) fun l => lk (listD y) fun m => QI (zipD l m) p.2
  | _ => False := rfl
def kScQ (vs : List Nat) (ρ1 : Rho) (Q : R → Rho → Prop) (acc : List Str) (ρ2 : Rho) : Prop := Q (.dat (.int (distN acc : Nat))) (unw vs ρ1 ρ2)
def kSc (ks : List Nat) (g : GD) (tt : TTD) (te : TD) (vs : List Nat) (Q : R → Rho → Prop) (ds : List D) (ρ1 : Rho) : Prop := (∀ v ∈ vs, v ∉ ks ∧ ∀ o, ρ1[v]? ≠ some (.own o)) ∧ compT g tt te vs ds [] (wipR ρ1 vs) (kScQ vs ρ1 Q)
theorem e_scLen : wScLen ks ti g t ta vs ρ Q = ti ρ (kSc ks g t ta vs Q) := rfl
theorem k_sc : kSc ks g t ta vs Q ds ρ = ((∀ v ∈ vs, v ∉ ks ∧ ∀ o, ρ[v]? ≠ some (.own o)) ∧ compT g t ta vs ds [] (wipR ρ vs) (kScQ vs ρ Q)) := rfl
theorem k_scQ : kScQ vs ρ1 Q acc ρ2 = Q (.dat (.int (distN acc : Nat))) (unw vs ρ1 ρ2) := rfl
theorem compT_nil : compT g t ta vs [] acc ρ QS = QS acc ρ := rfl
theorem rev_l : gRev (.lst l) = some (.n (.lst l.reverse)) := rfl
theorem rev_f : gRev (.fzl l) = some (.n (.lst l.reverse)) := rfl
theorem rev_t : gRev (.tup l) = some (.t l.reverse) := rfl
theorem clear_l : gClear l [] = some ([], .non) := rfl
theorem lista_s : gListA [.str x] = if x.cps.size ≤ sizeLine then some (.n (.lst (signsD x))) else none := rfl
theorem max_2 {i j : Int} : gMax [.int i, .int j] = some (.d (.int (if j > i then j else i))) := rfl
theorem min_2 {i j : Int} : gMin [.int i, .int j] = some (.d (.int (if j < i then j else i))) := rfl
end
end DL

set_option Elab.async false
set_option maxRecDepth 100000
set_option maxHeartbeats 4000000
/-! DL28: two names at once that are no plain locals; a text times an int; chains and sets of texts from the head. -/
namespace DL
open PySem PySem.Spec PyProof.Rows L2
section
variable {X : Cx} {b : Bas} {ks : List Nat} {tl : TAD} {pos : Pos}
theorem s_parC {i j : Nat} {x y : Str} {ea eb : Expr} {px py pt : Pos} {kt : Nat} {k2 pt2} (hk : b.kp.map (·.1) = ks) (hc : X.calm = true) (hN : X.N.Nodup) (hi : X.N[i]? = some x) (hj : X.N[j]? = some y) (hx : Loc X.env.scope x) (hy : Loc X.env.scope y)
    (ha : PAD X b [ea, eb] tl)
    (fx : X.fn x = true ∨ X.env.scope.names.lookup x = some .local := by first | exact .inl rfl | exact .inr rfl) (fy : X.fn y = true ∨ X.env.scope.names.lookup y = some .local := by first | exact .inl rfl | exact .inr rfl)
    (hs : swapsWithSole [.Tuple [.Name x px, .Name y py] kt pt] (.Tuple [ea, eb] k2 pt2) pos.line X.env = pure false := by rfl) (hw : swappedStores [.Tuple [.Name x px, .Name y py] kt pt] (.Tuple [ea, eb] k2 pt2) X.env = pure none := by rfl)
    (h1 : (assignEach [.Tuple [.Name x px, .Name y py] kt pt] X.env).map (·.2) = [assign (.Tuple [.Name x px, .Name y py] kt pt) X.env] := by rfl)
    (h2 : (assignEach [.Name x px, .Name y py] X.env).map (·.2) = assign (.Name x px) X.env :: (assignEach [.Name y py] X.env).map (·.2) := by rfl)
    (h3 : (assignEach [.Name y py] X.env).map (·.2) = assign (.Name y py) X.env :: (assignEach [] X.env).map (·.2) := by rfl)
    (hn : (assignEach [.Name x px, .Name y py] X.env).length = 2 := by rfl) (hst : (assignEach [.Name x px, .Name y py] X.env).findIdx? (·.1) = none := by rfl) :
    PSD X b (.Assign [.Tuple [.Name x px, .Name y py] kt pt] (.Tuple [ea, eb] k2 pt2) pos) (wPar ks [i, j] tl) :=
  ps_weak (ps_asg (pe_tup ha) (pg_tup hc (pgs_cons (pg_name hN hi hx fx) (pgs_cons (pg_name hN hj hy fy) pgs_nil h3) h2) hn hst) hs hw h1) fun D σ H q => by
    obtain ⟨G, ρ, DD, w, q, n, _⟩ := q
    refine ⟨G, ρ, _, w, q, fun vs H1 G1 rs ρ1 w1 m1 q1 z => ?_⟩
    obtain ⟨hi', hl, z⟩ := z
    obtain ⟨p, e1, z⟩ := lk_get z
    obtain ⟨rs', ρ2⟩ := p
    obtain ⟨G2, w2, x2, p2, b2, _⟩ := Rel.thins hk w1 q1 e1
    have len : ∀ {vs : List V} {rs : List R}, RvA X.K b σ H H1 G1 ρ1 vs rs → vs.length = rs.length := fun {vs rs} h => by
      induction h with
      | nil => rfl
      | cons _ _ _ ih => exact congrArg (· + 1) ih
    have hv : vs.length = 2 := (len q1).trans hl
    match vs, hv, p2 with
    | [v, u], _, p2 =>
      refine ⟨(by decide : 2 ≤ sizeLine), fun p hp => ⟨p, [v, u], rfl, SqT.of upd_same, rfl, v, [u], rfl, u, [], rfl, rfl, ?_⟩⟩
      exact n _ _ G2 _ (Rel.sets (w2.new hp) (p2.up (w2.newF hp)) b2 fun i hm p hp e => hi' i hm (by rw [← hk, ← e]; exact List.mem_map_of_mem hp)) (m1.ex.trans x2) z
end

/-! ### a text times an int -/
def gMulA : D → D → Option Z
  | .str x, .int n => if x.length ≤ 1000 ∧ -1000 ≤ n ∧ n ≤ 1000 then some (.d (.str (Txt.mul x n))) else none
  | d, e => gMul d e
def rMulS : R2 := fun x y H Q => ∃ a n, x = .str a ∧ y = .int n ∧ a.length ≤ 1000 ∧ -1000 ≤ n ∧ n ≤ 1000 ∧ Q (.str (Txt.mul a n)) H
def rMulB (K : PySem.W.Frag) : R2 := fun x y H Q => rMulS x y H Q ∨ rMulA K x y H Q
theorem op_mulS {X : Cx} : OpR X (binaryOp .Mult) rMulS := by
  intro pins s σ H x y v u Q I rx ry h
  obtain ⟨a, n, rfl, rfl, h1, h2, h3, q⟩ := h
  obtain ⟨t, rfl⟩ := rx
  obtain ⟨t2, rfl⟩ := ry
  refine SB.mul ⟨?_, fun hn _ => ?_, fun hn _ => ?_⟩ fun t' k => ⟨.str _, H, I.tok _, ⟨_, rfl⟩, q⟩
  · have e1 : ¬ n < -(2 ^ 63 : Int) := by omega
    have e2 : ¬ n ≥ 2 ^ 63 := by omega
    rw [decide_eq_false e1, decide_eq_false e2]; rfl
  · intro hc
    have hn0 : 0 < n := by omega
    have : (a.length : Int) ≤ (2 ^ 63 - 1) / n := by
      refine (Int.le_ediv_iff_mul_le hn0).mpr ?_
      have h4 : (a.length : Int) * n ≤ 1000 * 1000 := Int.mul_le_mul (by omega) h3 (by omega) (by decide)
      exact Int.le_trans h4 (by decide)
    omega
  · have h4 : a.length * n.toNat ≤ 1000 * 1000 := Nat.mul_le_mul h1 (by omega)
    have h5 : a.length * n.toNat ≤ 1000000 := h4
    unfold Builtin.Str.tooLong
    have e : sizeLine = 16777216 := rfl
    simp only [decide_eq_false_iff_not, gt_iff_lt]
    omega
theorem op_mulB {X : Cx} : OpR X (binaryOp .Mult) (rMulB X.K) := op_mulS.or op_mulA
theorem o_mulB {K : PySem.W.Frag} : Op2 K (rMulB K) gMulA := fun H G x y d e z Q xx rx ry hz k => by
  unfold gMulA at hz
  split at hz
  · rename_i a n
    by_cases hc : a.length ≤ 1000 ∧ -1000 ≤ n ∧ n ≤ 1000
    · rw [if_pos hc] at hz
      cases hz
      exact .inl ⟨a, n, rx.str, ry.int, hc.1, hc.2.1, hc.2.2, k _ H ⟨rfl, .str _⟩⟩
    · rw [if_neg hc] at hz; cases hz
  · exact .inr (o_mulA H G x y d e z Q xx rx ry hz k)

/-! ### from the head -/
section
variable {ρ ρ1 ρ2 : Rho} {Q : R → Rho → Prop} {QS : List Str → Rho → Prop} {r r1 : R} {d d1 d2 e : D} {ds : List D} {vs : List Nat} {ta tb tc : TD} {t : TTD} {g g' : D → D → Option Z} {gd : GD} {acc : List Str} {c : Bool} {z : Z}
def kCh6 (g' : D → D → Option Z) (d2 : D) (Q : R → Rho → Prop) (ρ : Rho) (d : D) : Prop := lk (g' d2 d) (kE Q ρ)
def kCh5 (g' : D → D → Option Z) (r : R) (Q : R → Rho → Prop) (ρ : Rho) (d2 : D) : Prop := lk (con ρ r) (kCh6 g' d2 Q ρ)
def kCh4 (g' : D → D → Option Z) (r2 : R) (Q : R → Rho → Prop) (r : R) (ρ : Rho) : Prop := lk (con ρ r2) (kCh5 g' r Q ρ)
def kCh3 (g' : D → D → Option Z) (tc : TD) (r2 : R) (Q : R → Rho → Prop) (ρ : Rho) : Z → Prop
  | .d (.bl c) => if c = true then tc ρ (kCh4 g' r2 Q) else Q (.dat (.bl false)) ρ
  | _ => False
def kCh2 (g g' : D → D → Option Z) (tc : TD) (r2 : R) (Q : R → Rho → Prop) (ρ : Rho) (d1 d2 : D) : Prop := lk (g d1 d2) (kCh3 g' tc r2 Q ρ)
def kCh1 (g g' : D → D → Option Z) (tc : TD) (r2 : R) (Q : R → Rho → Prop) (ρ : Rho) (d1 : D) : Prop := lk (con ρ r2) (kCh2 g g' tc r2 Q ρ d1)
def kCh0 (g g' : D → D → Option Z) (tc : TD) (r1 : R) (Q : R → Rho → Prop) (r2 : R) (ρ : Rho) : Prop := lk (con ρ r1) (kCh1 g g' tc r2 Q ρ)
def kCh (g g' : D → D → Option Z) (tb tc : TD) (Q : R → Rho → Prop) (r1 : R) (ρ : Rho) : Prop := tb ρ (kCh0 g g' tc r1 Q)
theorem e_chain : wChain g g' ta tb tc ρ Q = ta ρ (kCh g g' tb tc Q) := by
  unfold wChain
  congr 1
theorem k_ch : kCh g g' tb tc Q r1 ρ = tb ρ (kCh0 g g' tc r1 Q) := rfl
theorem k_ch0 {r2 : R} : kCh0 g g' tc r1 Q r2 ρ = lk (con ρ r1) (kCh1 g g' tc r2 Q ρ) := rfl
theorem k_ch1 : kCh1 g g' tc r Q ρ d = lk (con ρ r) (kCh2 g g' tc r Q ρ d) := rfl
theorem k_ch2 : kCh2 g g' tc r Q ρ d e = lk (g d e) (kCh3 g' tc r Q ρ) := rfl
theorem k_ch3 : kCh3 g' tc r Q ρ (.d (.bl c)) = if c = true then tc ρ (kCh4 g' r Q) else Q (.dat (.bl false)) ρ := rfl
theorem k_ch4 {r2 : R} : kCh4 g' r2 Q r ρ = lk (con ρ r2) (kCh5 g' r Q ρ) := rfl
theorem k_ch5 : kCh5 g' r Q ρ d = lk (con ρ r) (kCh6 g' d Q ρ) := rfl
theorem k_ch6 : kCh6 g' d Q ρ e = lk (g' d e) (kE Q ρ) := rfl
def kT3 (g : GD) (tt : TTD) (te : TD) (vs : List Nat) (ds : List D) (acc : List Str) (Q : List Str → Rho → Prop) (ρ : Rho) : D → Prop
  | .str x => acc.length + 1 ≤ 4000 ∧ compT g tt te vs ds (acc ++ [x]) (wipR ρ vs) Q
  | _ => False
def kT2b (g : GD) (tt : TTD) (te : TD) (vs : List Nat) (ds : List D) (acc : List Str) (Q : List Str → Rho → Prop) (r : R) (ρ : Rho) : Prop := lk (con ρ r) (kT3 g tt te vs ds acc Q ρ)
def kT2 (g : GD) (tt : TTD) (te : TD) (vs : List Nat) (ds : List D) (acc : List Str) (Q : List Str → Rho → Prop) (c : Bool) (ρ : Rho) : Prop := if c = true then te ρ (kT2b g tt te vs ds acc Q) else compT g tt te vs ds acc (wipR ρ vs) Q
def kT1 (g : GD) (tt : TTD) (te : TD) (vs : List Nat) (ds : List D) (acc : List Str) (Q : List Str → Rho → Prop) (ρ : Rho) : Prop := tt ρ (kT2 g tt te vs ds acc Q)
theorem compT_cons : compT gd t ta vs (d :: ds) acc ρ QS = gd d ρ (kT1 gd t ta vs ds acc QS) := by
  conv => lhs; unfold compT
  congr 1
theorem k_t1 : kT1 gd t ta vs ds acc QS ρ = t ρ (kT2 gd t ta vs ds acc QS) := rfl
theorem k_t2 : kT2 gd t ta vs ds acc QS c ρ = if c = true then ta ρ (kT2b gd t ta vs ds acc QS) else compT gd t ta vs ds acc (wipR ρ vs) QS := rfl
theorem k_t2b : kT2b gd t ta vs ds acc QS r ρ = lk (con ρ r) (kT3 gd t ta vs ds acc QS ρ) := rfl
theorem k_t3 {x : Str} : kT3 gd t ta vs ds acc QS ρ (.str x) = (acc.length + 1 ≤ 4000 ∧ compT gd t ta vs ds (acc ++ [x]) (wipR ρ vs) QS) := rfl
theorem mulA_si {x : Str} {n : Int} : gMulA (.str x) (.int n) = if x.length ≤ 1000 ∧ -1000 ≤ n ∧ n ≤ 1000 then some (.d (.str (Txt.mul x n))) else none := rfl
def inS (y x : Str) : Bool := !(Builtin.Str.occurrences y x 0 y.length 1).isEmpty
theorem inA_s {neg : Bool} {x y : Str} : gInA neg (.str x) (.str y) = some (.d (.bl (neg != inS y x))) := rfl
theorem ix_s {x : Str} {i : Int} : gIx (.str x) (.int i) = if x.length ≤ sizeLine then (atI x.cps.toList i).map fun c => .d (.str ⟨#[c]⟩) else none := rfl
end
end DL

set_option Elab.async false
set_option maxRecDepth 100000
set_option maxHeartbeats 4000000
/-! DL29: enumerate of a tuple, of a list. -/
namespace DL
open PySem PySem.Spec PyProof.Rows L2
abbrev enC (N : Addr) : Obj := { cls := .type "enumerate", data := .fields #[.none, .bool false, .ref N, rawInt 0, .none, .none] }
theorem en_made {v : Value} {o : Obj} {P : Heap → Prop} (B : Begins v o P) : Meets (Builtin.«enumerate.__new__» ⟨[.type "enumerate", v], []⟩) (fun _ R s => P s.heap ∧ R (.ok (.ret (.ref (s.heap.push o).objs.size))) { s with heap := (s.heap.push o).push (enC s.heap.objs.size) }) :=
  .of_wp fun prog w A R s ⟨hP, hR⟩ => by
    obtain ⟨hp, gn, dr, tk, os⟩ := s
    have subs := sub_enumerate
    have iter : ∀ {A' : Around} {E Q : Value → Shared → Prop}, Q (.ref hp.objs.size) ⟨hp.push o, gn, dr, tk, os⟩ → wpAny (model prog w) A' (pyIter v) Q E ⟨hp, gn, dr, tk, os⟩ := fun q => B.iter prog w _ _ ⟨hp, gn, dr, tk, os⟩ _ hP q
    wp_walk using iter
    refine wpAny_stack_any fun _ => wpAny_pure ?_
    split
    · rename_i c _ _ _ _ _
      cases (c == Value.type "enumerate") <;> (wp_walk using iter; exact ⟨_, rfl, hR⟩)
    · wp_walk using iter
      exact ⟨_, rfl, hR⟩
section
variable {prog : Program} {w : World} {A : Around} {E : Value → Shared → Prop} {s : Shared}
theorem call_en {v : Value} {o : Obj} {P : Heap → Prop} {Q : Value → Shared → Prop} (B : Begins v o P) (hP : P s.heap)
    (h : ∀ h', IsEnum h' (s.heap.objs.size + 1) s.heap.objs.size 0 .none → h'.get? s.heap.objs.size = some o → (∀ b u, s.heap.get? b = some u → h'.get? b = some u) → Q (.ref (s.heap.objs.size + 1)) { s with heap := h' }) : wpAny (model prog w) A (call (.type "enumerate") [v]) Q E s := by
  refine callType_new F.called_enumerate (by decide) (F.typeCall_enumerate_1 _) (F.newCall_enumerate_1 _) (fun obj => F.args_object_init_2 obj _) F.entry_enumerate_new (en_made B) ⟨hP, ?_⟩
  have hz : (s.heap.push o).objs.size = s.heap.objs.size + 1 := Heap.size_push ..
  have e1 : ((s.heap.push o).push (enC s.heap.objs.size)).get? (s.heap.objs.size + 1) = some (enC s.heap.objs.size) := by
    rw [← hz]; exact Heap.get?_push_size _ rfl
  show _ ∧ _
  rw [hz]
  exact ⟨⟨_, e1, rfl⟩, h _ e1 (Heap.get?_push_of_some _ (Heap.get?_push_size _ B.free)) fun b u x => Heap.get?_push_of_some _ (Heap.get?_push_of_some _ x)⟩
end
theorem en_end {prog : Program} {w : World} {A : Around} {E : Value → Shared → Prop} {s : Shared} {e it a : Addr} {i : Nat} {its : Array Value} {old : Value} {Q : Option Value → Shared → Prop} (hh : A.handled = none) (he : IsEnum s.heap e it i old) (hi : s.heap.IsTupleIter it a i)
    (ht : s.heap.IsTuple a its) (hx : its[i]? = none) (q : ∀ h', Heap.ExtBut it s.heap h' → Q none { s with heap := h' }) : wpAny (model prog w) A (pyNext (.ref e)) Q E s := by
  have ty : s.TypeIs (.ref e) "enumerate" := ⟨_, he, rfl⟩
  unfold pyNext
  refine wpAny_bind (wpAny_attempt (wpAny_callSpecial?_slot (name := Str.ofString "__next__") ty F.slot_enumerate_next (wpAny_call_entry F.slot_enumerate_next ty F.entry_enumerate_next ?_ (F.args_enumerate_next_1 _))))
  show wpAny _ _ (field (.ref e) 2 >>= _) _ _ _
  refine wpAny_bind (wpAny_field he rfl (x := .ref it) rfl (wpAny_bind (wpAny_nextOf_tuple_end hh hi ht hx fun h' x eb ⟨o, e1, e2⟩ => ?_)))
  exact wpAny_bind (wpAny_isInstance (T := "StopIteration") (b := true) ⟨o, e1, e2⟩ isSubtype_stop (wpAny_pure (q _ eb)))
/-- the tuple at a, each item in a new pair -/
def IteT (K : PySem.W.Frag) (a : Addr) : It :=
  ⟨fun i H => ∃ (xs : List V) (x : V), SqT K H a xs ∧ xs[i]? = some x, fun i H v H' => ∃ T x, v = .ref T ∧ H T = none ∧ H' = upd H T (.tup [.int (i : Nat), x]) ∧ ∀ xs, SqT K H a xs → xs[i]? = some x, fun i H => ∃ xs : List V, SqT K H a xs ∧ xs.length ≤ i⟩
theorem turn_enT {P : Program} {w : World} {K : PySem.W.Frag} {elts : List Expr} {kk : Nat} {tpos : Pos} (a e it : Addr) :
    Turn P w K (.Tuple elts kk tpos) (IteT K a) [e, it] e (fun i h => (∃ old, IsEnum h e it ((i : Nat) : Int) old) ∧ h.IsTupleIter it a i ∧ e ≠ it ∧ e ≠ a ∧ a ≠ it) where
  mem := List.mem_cons_self
  obj := fun i h ⟨⟨old, q1⟩, ⟨o, q2, q3, q4⟩, _⟩ b hb => by
    rcases List.mem_cons.mp hb with z | z
    · subst z; exact ⟨_, q1, fun v q => nomatch q⟩
    · rw [List.mem_singleton.mp z]
      exact ⟨o, q2, fun v q => by rw [q4] at q; cases q⟩
  keep := fun i h h' ⟨⟨old, q1⟩, q2, q3⟩ k => ⟨⟨old, k e List.mem_cons_self _ q1⟩, q2.at fun o q => k it (List.mem_cons_of_mem _ List.mem_cons_self) o q, q3⟩
  item := by
    intro X hP hw hK hc i pins s σ H E I hf st hg
    subst hP hw hK
    obtain ⟨⟨old, he⟩, hit, hne, hea, hai⟩ := st
    obtain ⟨xs, x, hq, hx⟩ := hg
    obtain ⟨its, rv, p, hz⟩ := I.tuple hq
    obtain ⟨u, hu, ru⟩ := rv.get hx
    have hel : e < s.heap.objs.size := Heap.lt_size he
    have hil : it < s.heap.objs.size := by obtain ⟨_, q, _⟩ := hit; exact Heap.lt_size q
    have hlt : i < its.toArray.size := by
      rw [List.size_toArray]
      exact (List.getElem?_eq_some_iff.mp hu).1
    have eu : its.toArray[i]? = some u := by rw [List.getElem?_toArray]; exact hu
    refine wpAny_pyNext_enum_itemD (Draws.tuple (A := X.A.in1) (I.ok.hd hc) it a hai its.toArray) he ⟨hit, p⟩ hlt hne (by simp [hne, hea]) fun y h' tk hy ho hs' hT hsz hk => ?_
    have ey : y = u := by
      have hy : its.toArray[i]? = some y := hy
      rw [eu] at hy; cases hy; rfl
    subst ey
    refine ⟨_, rfl, wpAny_letOwnedTupleGo_enum (s := { s with heap := h', toks := tk + 1 }) ho fun h'' he' sb => ?_⟩
    have hT2 : h''.get? s.heap.objs.size = some { cls := .type "tuple", data := .seq #[.int i tk, y] } := (sb.2 _ (Nat.ne_of_gt hel)).trans hT
    have new : ObjOk X.prog X.w (upd H s.heap.objs.size (.tup [.int (i : Nat), x])) h'' s.heap.objs.size (.tup [.int (i : Nat), x]) :=
      ⟨(by decide : 2 ≤ sizeLine), [.int i tk, y], .cons ⟨_, rfl⟩ (.cons ru .nil), ⟨_, hT2, rfl, _, rfl⟩⟩
    have I1 : Inv X pins σ (upd H s.heap.objs.size (.tup [.int (i : Nat), x])) { s with heap := h'', toks := tk + 1 } :=
      I.turnedNew (ch := [e, it]) (fun b ob hb q => (sb.2 b (fun z => hb (by simp [z]))).trans (hk b ob (fun z => hb (by simp [z])) (fun z => hb (by simp [z])) q)) hf (Nat.le_refl _) new
    refine ⟨.ref s.heap.objs.size, _, I1, rfl, ⟨_, x, rfl, I.hok.fresh (Nat.le_refl _), rfl, fun ys hy => by rw [I.tuple_inj hy hq]; exact hx⟩, ⟨⟨y, ?_⟩, hs'.1.at fun o q => (sb.2 it (Ne.symm hne)).trans q, hne, hea, hai⟩, fun b hb => ?_⟩
    · have e1 : ((i + 1 : Nat) : Int) = (i : Int) + 1 := by omega
      rw [e1]; exact he'
    · have hb' : b < s.heap.objs.size := by
        rcases List.mem_cons.mp hb with z | z
        · rw [z]; exact hel
        · rw [List.mem_singleton.mp z]; exact hil
      rw [upd_ne (Nat.ne_of_lt hb')]
      exact (hf b hb).1
  done := by
    intro X hP hw hK hc i pins s σ H E I hf st hg
    subst hP hw hK
    obtain ⟨⟨old, he⟩, hit, hne, hea, hai⟩ := st
    obtain ⟨xs, hq, hx⟩ := hg
    obtain ⟨its, rv, p, hz⟩ := I.tuple hq
    obtain ⟨f0, f1, f2, f3, f4, f5⟩ := hf it (List.mem_cons_of_mem _ List.mem_cons_self)
    have hl := rv.length
    exact en_end (I.ok.hd hc) he hit p (by simp; omega) fun h' eb => ⟨rfl, I.turned (t' := s.toks) (fun b o hb q => eb b o hb q) f0 f1 f3 f4 f5⟩
  self := fun A i s Q E ⟨⟨_, he⟩, _⟩ h => wpAny_pyIter_enum he h
def iEnA (K : PySem.W.Frag) (ta : TA) : TI := fun σ H Rr => ta σ H fun vs H1 => ∃ a xs, vs = [.ref a] ∧ ((SqL K H1 a xs ∧ Rr (Ite K a) H1) ∨ (SqT K H1 a xs ∧ Rr (IteT K a) H1))
theorem pi_enA {X : Cx} {e : Expr} {ta : TA} {p pos tpos : Pos} {elts : List Expr} {kk : Nat} (hg : Gl X "enumerate") (hm : X.mg "enumerate" = none) (ha : PA X [e] ta) (hs : starEach [e] X.env = [(false, eval e X.env)] := by rfl) :
    PI X (.Tuple elts kk tpos) (.Call (.Name "enumerate" p) [e] [] pos) (iEnA X.K ta) := by
  constructor
  intro pins s σ H Rr I h
  refine Call_ (ld_blt I hg hm boot_enumerate (PyProof.Rows.callWith_type1 (thn (ha.run pos pins s σ H _ I h) fun us s1 ⟨vs, H1, I1, r1, a, xs, ex, q⟩ => ?_) hs rfl))
  subst ex
  cases r1 with
  | cons r rr =>
    cases rr
    cases r
    have low : ∀ {b : Addr}, b ∈ [s1.heap.objs.size + 1, s1.heap.objs.size] → s1.heap.objs.size ≤ b := fun {b} hb => by
      rcases List.mem_cons.mp hb with z | z
      · rw [z]; exact Nat.le_add_right _ _
      · rw [List.mem_singleton.mp z]; exact Nat.le_refl _
    rcases q with ⟨hq, q⟩ | ⟨hq, q⟩
    · obtain ⟨its, rv, p', hz⟩ := I1.list hq
      refine call_enumerate_list p'.isList fun h' he hit hsz hk => wpAny_pyIter_enum he ?_
      exact ⟨s1.heap.objs.size + 1, [s1.heap.objs.size + 1, s1.heap.objs.size], _, _, H1, rfl, I1.kept (t' := s1.toks) hk, turn_enum a (s1.heap.objs.size + 1) s1.heap.objs.size, ⟨⟨.none, he⟩, hit, Nat.succ_ne_self _⟩, fun b hb => I1.fpOk (low hb) (I1.hok.fresh (low hb)), q⟩
    · obtain ⟨its, rv, p', hz⟩ := I1.tuple hq
      have la : a < s1.heap.objs.size := by obtain ⟨_, z, _⟩ := p'; exact Heap.lt_size z
      refine call_en (begins_tuple a its.toArray) p' fun h' he hit hk => wpAny_pyIter_enum he ?_
      exact ⟨s1.heap.objs.size + 1, [s1.heap.objs.size + 1, s1.heap.objs.size], _, _, H1, rfl, I1.kept (t' := s1.toks) hk, turn_enT a (s1.heap.objs.size + 1) s1.heap.objs.size,
        ⟨⟨.none, he⟩, ⟨_, hit, rfl, rfl⟩, Nat.succ_ne_self _, Nat.ne_of_gt (Nat.lt_succ_of_lt la), Nat.ne_of_lt la⟩, fun b hb => I1.fpOk (low hb) (I1.hok.fresh (low hb)), q⟩
theorem itD_enT {K : PySem.W.Frag} {G : Hp} {a : Addr} {xs : List V} {ds : List D} (h : SqT K G a xs) (r : RpA K G xs ds) : ItD K (IteT K a) (enumD 0 ds) G := fun i H G1 x1 x2 => by
  have hH := x2.sqt (x1.sqt h)
  refine ⟨fun d e => ?_, fun hl => ⟨xs, hH, by rw [r.len, ← enumD_len ds 0]; exact hl⟩⟩
  obtain ⟨y, e1, rfl⟩ := enumD_at e
  obtain ⟨v, h1, h2⟩ := r.at e1
  refine ⟨⟨xs, v, hH, h1⟩, fun x H' q => ?_⟩
  obtain ⟨T, x', rfl, hT, rfl, q⟩ := q
  have := q xs hH
  rw [h1] at this
  cases this
  refine ⟨.w [.int ((0 + i : Nat) : Int), y], rfl, T, _, rfl, hT, rfl, ?_⟩
  rw [Nat.zero_add]
  exact .cons (.int _) (.cons (h2.up x1) .nil)
theorem seq_rp {K : PySem.W.Frag} {G : Hp} {v : V} {d : D} {l : List D} (r : Rp K G v d) (e : walkD d = some l) : ∃ a xs, v = .ref a ∧ (SqL K G a xs ∨ SqT K G a xs) ∧ RpA K G xs l := by
  cases r with
  | lst h1 h2 => cases e; exact ⟨_, _, rfl, .inl (SqL.of h1), h2⟩
  | fzl h1 h2 => cases e; exact ⟨_, _, rfl, .inl h1, h2⟩
  | tup h1 h2 => cases e; exact ⟨_, _, rfl, .inr h1.1, h2⟩
  | wt h1 h2 => cases e; exact ⟨_, _, rfl, .inr h1, h2⟩
  | _ => cases e
def wItEA (ks : List Nat) (ta : TAD) : TID := fun ρ Q => ta ρ fun rs ρ1 => lk (frzs ks rs ρ1) fun p => match p.1 with
  | [x] => lk (walkD x) fun l => Q (enumD 0 l) p.2
  | _ => False
theorem i_enumA {X : Cx} {b : Bas} {ks : List Nat} {e : Expr} {t : TAD} {p pos tpos : Pos} {elts : List Expr} {kk : Nat} (hk : b.kp.map (·.1) = ks) (hg : Gl X "enumerate") (hm : X.mg "enumerate" = none) (ha : PAD X b [e] t) (hs : starEach [e] X.env = [(false, eval e X.env)] := by rfl) :
    PI X (.Tuple elts kk tpos) (.Call (.Name "enumerate" p) [e] [] pos) (liftI X.K b (wItEA ks t)) := i_weak (pi_enA hg hm ha hs) fun σ H Rr q => by
  obtain ⟨G, ρ, QD, w, q, k⟩ := q
  refine ⟨G, ρ, _, w, q, fun vs H1 G1 rs ρ1 w1 m1 q1 z => ?_⟩
  obtain ⟨p, e1, z⟩ := lk_get z
  obtain ⟨ds, ρ2⟩ := p
  obtain ⟨G2, w2, m2, r2, x2⟩ := Rel.frzs hk w1 m1 q1 e1
  dsimp only at z
  split at z
  · obtain ⟨l, e2, z⟩ := lk_get z
    cases r2 with
    | cons h1 h2 =>
      cases h2
      obtain ⟨a, xs, rfl, h1 | h1, h2⟩ := seq_rp h1 e2
      · exact ⟨_, xs, rfl, .inl ⟨w2.sub.sql h1, k _ H1 G2 _ ρ2 w2 m2 (itD_enum h1 h2) z⟩⟩
      · exact ⟨_, xs, rfl, .inr ⟨w2.sub.sqt h1, k _ H1 G2 _ ρ2 w2 m2 (itD_enT h1 h2) z⟩⟩
  · exact z.elim
section
variable {ρ : Rho} {QI : List D → Rho → Prop} {rs : List R} {d : D} {ks : List Nat} {tA : TAD}
def kEa2 (Q : List D → Rho → Prop) (p : List D × Rho) : Prop := match p.1 with
  | [x] => lk (walkD x) (kEn3 Q p.2)
  | _ => False
def kEa1 (ks : List Nat) (Q : List D → Rho → Prop) (rs : List R) (ρ : Rho) : Prop := lk (frzs ks rs ρ) (kEa2 Q)
theorem e_itEA : wItEA ks tA ρ QI = tA ρ (kEa1 ks QI) := by
  unfold wItEA
  congr 1
theorem k_ea1 : kEa1 ks QI rs ρ = lk (frzs ks rs ρ) (kEa2 QI) := rfl
theorem k_ea2 : kEa2 QI ([d], ρ) = lk (walkD d) (kEn3 QI ρ) := rfl
end
end DL

set_option Elab.async false
set_option maxRecDepth 100000
set_option maxHeartbeats 4000000
/-! DL30: == of flat lists and tuples. -/
namespace DL
open PySem PySem.Spec PyProof.Rows L2
/-- items that are plain: numbers, texts, bools -/
structure Flat {α : Type} (g : α → D) (f : α → PyData) (P : α → Prop) : Prop where
  py : ∀ a, pyD (g a) = some (f a)
  can : ∀ a, P a → (f a).canLay0 = true
  dep : ∀ a, (f a).depth = 0
  eqv : ∀ a b, PyData.eqv (f a) (f b) = true ↔ a = b
section
variable {α : Type} {g : α → D} {f : α → PyData} {P : α → Prop} (F : Flat g f P)
include F
theorem Flat.pys : ∀ l : List α, pyDs (l.map g) = some (l.map f)
  | [] => rfl
  | a :: l => by
    rw [List.map_cons]
    unfold pyDs
    rw [F.py, Flat.pys l]
    rfl
theorem Flat.cans : ∀ l : List α, (∀ a ∈ l, P a) → PyData.canLayAll0 (l.map f) = true
  | [], _ => rfl
  | a :: l, h => by
    rw [List.map_cons]
    unfold PyData.canLayAll0
    rw [F.can a (h a List.mem_cons_self), Flat.cans l fun x hx => h x (List.mem_cons_of_mem _ hx)]
    rfl
theorem Flat.deps : ∀ l : List α, PyData.depthAll (l.map f) = 0
  | [] => rfl
  | a :: l => by
    rw [List.map_cons]
    show max (f a).depth (PyData.depthAll (l.map f)) = 0
    rw [F.dep, Flat.deps l]; rfl
theorem Flat.eqvs : ∀ l m : List α, PyData.eqvAll (l.map f) (m.map f) = true ↔ l = m
  | [], [] => by simp [PyData.eqvAll]
  | [], b :: m => by simp [PyData.eqvAll]
  | a :: l, [] => by simp [PyData.eqvAll]
  | a :: l, b :: m => by
    rw [List.map_cons, List.map_cons, PyData.eqvAll, Bool.and_eq_true, F.eqv, Flat.eqvs l m]
    constructor
    · rintro ⟨rfl, rfl⟩; rfl
    · intro h; cases h; exact ⟨rfl, rfl⟩
theorem Flat.deepL {l m : List α} (hl : ∀ a ∈ l, P a) (hm : ∀ a ∈ m, P a) : deepEq (.lst (l.map g)) (.lst (m.map g)) = some (PyData.eqvAll (l.map f) (m.map f)) := by
  have e : ∀ l : List α, pyD (.lst (l.map g)) = some (.list (l.map f)) := fun l => by unfold pyD; rw [F.pys]; rfl
  have c : ∀ l : List α, (∀ a ∈ l, P a) → (PyData.list (l.map f)).canLay0 = true := fun l h => by unfold PyData.canLay0; exact F.cans l h
  have dd : ∀ l : List α, (PyData.list (l.map f)).depth = 1 := fun l => by show PyData.depthAll (l.map f) + 1 = 1; rw [F.deps]
  unfold deepEq
  rw [e, e, Option.bind_some, Option.bind_some, if_pos ⟨c l hl, c m hm, by rw [dd, dd]; decide⟩, PyData.eqv]
theorem Flat.deepT {l m : List α} (hl : ∀ a ∈ l, P a) (hm : ∀ a ∈ m, P a) : deepEq (.tup (l.map g)) (.tup (m.map g)) = some (PyData.eqvAll (l.map f) (m.map f)) := by
  have e : ∀ l : List α, pyD (.tup (l.map g)) = some (.tuple (l.map f)) := fun l => by unfold pyD; rw [F.pys]; rfl
  have c : ∀ l : List α, (∀ a ∈ l, P a) → (PyData.tuple (l.map f)).canLay0 = true := fun l h => by unfold PyData.canLay0; exact F.cans l h
  have dd : ∀ l : List α, (PyData.tuple (l.map f)).depth = 1 := fun l => by show PyData.depthAll (l.map f) + 1 = 1; rw [F.deps]
  unfold deepEq
  rw [e, e, Option.bind_some, Option.bind_some, if_pos ⟨c l hl, c m hm, by rw [dd, dd]; decide⟩, PyData.eqv]
theorem Flat.dec [DecidableEq α] {l m : List α} : PyData.eqvAll (l.map f) (m.map f) = decide (l = m) := by
  by_cases h : l = m
  · rw [decide_eq_true h]; exact (F.eqvs l m).mpr h
  · rw [decide_eq_false h]; exact Bool.eq_false_iff.mpr fun z => h ((F.eqvs l m).mp z)
theorem Flat.lists [DecidableEq α] {neg : Bool} {l m : List α} (hl : ∀ a ∈ l, P a) (hm : ∀ a ∈ m, P a) : gEqA neg (.lst (l.map g)) (.lst (m.map g)) = some (.d (.bl (neg != decide (l = m)))) := by
  refine eqA_eq ?_
  unfold gEqB quick
  dsimp only
  rw [List.length_map, List.length_map]
  by_cases h : l.length = m.length
  · rw [if_pos h]
    dsimp only
    rw [F.deepL hl hm, F.dec]
  · rw [if_neg h]
    have : ¬ l = m := fun z => h (by rw [z])
    rw [decide_eq_false this]
theorem Flat.tuples [DecidableEq α] {neg : Bool} {l m : List α} (hl : ∀ a ∈ l, P a) (hm : ∀ a ∈ m, P a) : gEqA neg (.tup (l.map g)) (.tup (m.map g)) = some (.d (.bl (neg != decide (l = m)))) := by
  refine eqA_eq ?_
  unfold gEqB quick
  dsimp only
  by_cases h : l.map g = [] ∨ m.map g = []
  · rw [if_pos h]
    dsimp only
    rw [List.length_map, List.length_map]
    have e : (l.length == m.length) = decide (l = m) := by
      rcases h with h | h
      · have := List.map_eq_nil_iff.mp h
        subst this
        cases m <;> simp
      · have := List.map_eq_nil_iff.mp h
        subst this
        cases l <;> simp
    rw [e]
  · rw [if_neg h]
    dsimp only
    rw [F.deepT hl hm, F.dec]
end
theorem flat_int : Flat D.int PyData.int fun _ => True := ⟨fun _ => rfl, fun _ _ => rfl, fun _ => rfl, fun a b => by simp [PyData.eqv]⟩
theorem flat_str : Flat D.str PyData.str fun x => PyData.strOk x = true := ⟨fun _ => rfl, fun _ h => h, fun _ => rfl, fun a b => by simp [PyData.eqv]⟩
theorem flat_bl : Flat D.bl PyData.bool fun _ => True := ⟨fun _ => rfl, fun _ _ => rfl, fun _ => rfl, fun a b => by simp [PyData.eqv]⟩
theorem eqA_ints {neg : Bool} {l m : List Int} : gEqA neg (.lst (l.map .int)) (.lst (m.map .int)) = some (.d (.bl (neg != decide (l = m)))) := flat_int.lists (fun _ _ => True.intro) fun _ _ => True.intro
theorem eqA_intsT {neg : Bool} {l m : List Int} : gEqA neg (.tup (l.map .int)) (.tup (m.map .int)) = some (.d (.bl (neg != decide (l = m)))) := flat_int.tuples (fun _ _ => True.intro) fun _ _ => True.intro
theorem eqA_bls {neg : Bool} {l m : List Bool} : gEqA neg (.lst (l.map .bl)) (.lst (m.map .bl)) = some (.d (.bl (neg != decide (l = m)))) := flat_bl.lists (fun _ _ => True.intro) fun _ _ => True.intro
theorem eqA_strs {neg : Bool} {l m : List Str} (hl : ∀ x ∈ l, PyData.strOk x = true) (hm : ∀ x ∈ m, PyData.strOk x = true) : gEqA neg (.lst (l.map .str)) (.lst (m.map .str)) = some (.d (.bl (neg != decide (l = m)))) := flat_str.lists hl hm
end DL

set_option Elab.async false
set_option maxRecDepth 100000
set_option maxHeartbeats 4000000
/-! DL31: calls with two objects by reference. -/
namespace DL
open PySem PySem.Spec PyProof.Rows L2
section
variable {K : PySem.W.Frag} {b : Bas} {σ : L2.St} {H G H' G' : Hp} {ρ : Rho}
/-- behind something that changes the objects of two slots -/
theorem Rel.chg2 {i k : Nat} {o o' u u' : Own} {a e : Addr} {h' g' : HO} (w : Rel K b σ H G ρ) (hik : i ≠ k) (hr : ρ[i]? = some (.own o)) (hs : ρ[k]? = some (.own u)) (ha : σ[i]? = some (some (.ref a))) (he : σ[k]? = some (some (.ref e))) (sub : Ex G' H') (ex : Ex G G')
    (kep : ∀ (c : Addr) (x : HO), H c = some x → c ≠ a → c ≠ e → H' c = some x ∧ (G c = none → G' c = none)) (hat : H' a = some h') (hg : G' a = none) (r : RpO K G' h' o') (het : H' e = some g') (heg : G' e = none) (r2 : RpO K G' g' u') :
    Rel K b σ H' G' ((ρ.set i (.own o')).set k (.own u')) := by
  obtain ⟨a', h0, q1, q2, q3, q4, q5⟩ := w.own i o hr
  rw [ha] at q1
  cases q1
  obtain ⟨e', g0, p1, p2, p3, p4, p5⟩ := w.own k u hs
  rw [he] at p1
  cases p1
  have il : i < ρ.length := (List.getElem?_eq_some_iff.mp hr).1
  have kl : k < (ρ.set i (.own o')).length := by rw [List.length_set]; exact (List.getElem?_eq_some_iff.mp hs).1
  have nb : ∀ c, b.B c ≠ none → c ≠ a ∧ c ≠ e := fun c h => ⟨fun z => h (by rw [z]; exact q4), fun z => h (by rw [z]; exact p4)⟩
  have cas : ∀ {j : Nat} {s : Sl}, ((ρ.set i (.own o')).set k (.own u'))[j]? = some s → (j = k ∧ s = .own u') ∨ (j = i ∧ s = .own o' ∧ j ≠ k) ∨ (j ≠ k ∧ j ≠ i ∧ ρ[j]? = some s) := fun {j s} z => by
    rcases set_at z with ⟨rfl, z, _⟩ | ⟨hn, z⟩
    · cases z; exact .inl ⟨rfl, rfl⟩
    · rcases set_at z with ⟨rfl, z, _⟩ | ⟨hm, z⟩
      · cases z; exact .inr (.inl ⟨rfl, rfl, hn⟩)
      · exact .inr (.inr ⟨hn, hm, z⟩)
  have old : ∀ (j : Nat) (o1 : Own), ((ρ.set i (.own o')).set k (.own u'))[j]? = some (.own o1) → ∃ o2, ρ[j]? = some (.own o2) := fun j o1 z => by
    rcases cas z with ⟨rfl, _⟩ | ⟨rfl, _⟩ | ⟨_, _, z⟩
    · exact ⟨u, hs⟩
    · exact ⟨o, hr⟩
    · exact ⟨o1, z⟩
  refine ⟨sub, fun c x q => ?_, w.gro.trans ex, fun c h1 h2 => ?_, by rw [List.length_set, List.length_set]; exact w.len, fun j d q => ?_, fun j o1 q => ?_, fun j l o1 o2 c e1 e2 e3 e4 => ?_, fun p hp => ?_⟩
  · have := nb c (by rw [q]; exact fun z => by cases z)
    exact (kep c x (w.bas c x q) this.1 this.2).1
  · cases q : b.B c with
    | none => exact absurd q h1
    | some x => exact (kep c x (w.bas c x q) (nb c h1).1 (nb c h1).2).2 (w.prt c h1 h2)
  · rcases cas q with ⟨_, z⟩ | ⟨_, z, _⟩ | ⟨_, _, z⟩
    · cases z
    · cases z
    · obtain ⟨v, z1, z2⟩ := w.dat j d z
      exact ⟨v, z1, z2.up ex⟩
  · rcases cas q with ⟨rfl, z⟩ | ⟨rfl, z, _⟩ | ⟨hk, hi, z⟩
    · cases z; exact ⟨e, g', he, het, heg, p4, r2⟩
    · cases z; exact ⟨a, h', ha, hat, hg, q4, r⟩
    · obtain ⟨c, h, z1, z2, z3, z4, z5⟩ := w.own j o1 z
      have hc : c ≠ a := fun x => by subst x; exact hi (w.dis j i o1 o c z hr z1 ha)
      have hd : c ≠ e := fun x => by subst x; exact hk (w.dis j k o1 u c z hs z1 he)
      exact ⟨c, h, z1, (kep c h z2 hc hd).1, (kep c h z2 hc hd).2 z3, z4, z5.up ex⟩
  · obtain ⟨o3, e1⟩ := old j o1 e1
    obtain ⟨o4, e2⟩ := old l o2 e2
    exact w.dis j l o3 o4 c e1 e2 e3 e4
  · obtain ⟨z1, o1, z2⟩ := w.kep p hp
    by_cases hk : p.1 = k
    · exact ⟨z1, u', by rw [hk]; exact set_eq kl⟩
    · by_cases hi : p.1 = i
      · exact ⟨z1, o', by rw [set_ne hk, hi]; exact set_eq il⟩
      · exact ⟨z1, o1, by rw [set_ne hk, set_ne hi]; exact z2⟩
theorem Fm.chg2 {i k : Nat} {o o' u u' : Own} {a e : Addr} (hr : ρ[i]? = some (.own o)) (hs : ρ[k]? = some (.own u)) (ha : σ[i]? = some (some (.ref a))) (he : σ[k]? = some (some (.ref e))) (ex : Ex G G')
    (kep : ∀ (c : Addr) (x : HO), H c = some x → c ≠ a → c ≠ e → H' c = some x ∧ (G c = none → G' c = none)) (dm : ∀ a, H' a = none → H a = none) : Fm σ ρ H G ((ρ.set i (.own o')).set k (.own u')) H' G' :=
  ⟨ex, fun c x h n => kep c x h (fun z => n i o hr (by rw [z]; exact ha)) fun z => n k u hs (by rw [z]; exact he), fun j o1 z => by
    rcases set_at z with ⟨rfl, _, _⟩ | ⟨_, z⟩
    · exact ⟨u, hs⟩
    · rcases set_at z with ⟨rfl, _, _⟩ | ⟨_, z⟩
      · exact ⟨o, hr⟩
      · exact ⟨o1, z⟩, dm⟩
end
/-- f(x, y), the objects of the names x and y by reference -/
def kRR4 (i j : Nat) (ρ : Rho) (Q : R → Rho → Prop) (r : R) : List Sl → Prop
  | [.own o', .own u'] => Q r ((ρ.set i (.own o')).set j (.own u'))
  | _ => False
def kRR3 (sp : DSp) (i j : Nat) (ρ : Rho) (Q : R → Rho → Prop) (o : Own) : Option Sl → Prop
  | some (.own u) => sp [.own o, .own u] (kRR4 i j ρ Q) noX
  | _ => False
def kRR2 (sp : DSp) (i j : Nat) (ρ : Rho) (Q : R → Rho → Prop) : Option Sl → Prop
  | some (.own o) => kRR3 sp i j ρ Q o ρ[j]?
  | _ => False
def kRR1 (sp : DSp) (Q : R → Rho → Prop) (rs : List R) (ρ : Rho) : Prop := match rs with
  | [.bor i, .bor j] => i ≠ j ∧ kRR2 sp i j ρ Q ρ[i]?
  | _ => False
def wCallRR (sp : DSp) (t : TAD) : TD := fun ρ Q => t ρ (kRR1 sp Q)
section
variable {sp : DSp} {tA : TAD} {ρ : Rho} {Q : R → Rho → Prop} {i j : Nat} {o u : Own} {r : R}
theorem e_callRR : wCallRR sp tA ρ Q = tA ρ (kRR1 sp Q) := rfl
theorem k_rr1 : kRR1 sp Q [.bor i, .bor j] ρ = (i ≠ j ∧ kRR2 sp i j ρ Q ρ[i]?) := rfl
theorem k_rr2 : kRR2 sp i j ρ Q (some (.own o)) = kRR3 sp i j ρ Q o ρ[j]? := rfl
theorem k_rr3 : kRR3 sp i j ρ Q o (some (.own u)) = sp [.own o, .own u] (kRR4 i j ρ Q) noX := rfl
theorem k_rr4 : kRR4 i j ρ Q r [.own o, .own u] = Q r ((ρ.set i (.own o)).set j (.own u)) := rfl
end
section
variable {K : PySem.W.Frag} {b : Bas} {sp : DSp} {t : TAD} {E : XK} {σ : L2.St} {H : Hp} {Q : VK}
theorem callRR_go (q : lift K b (wCallRR sp t) σ H Q) : tCallG (toSp K sp) E (liftA K b t) σ H Q := by
  obtain ⟨G, ρ, QD, w, q, k⟩ := q
  refine ⟨G, ρ, _, w, q, fun vs H1 G1 rs ρ1 w1 m1 q1 z => ?_⟩
  unfold kRR1 at z
  split at z
  · rename_i i j
    obtain ⟨hij, z⟩ := z
    cases q1 with
    | cons p1 _ p3 =>
      cases p3 with
      | cons p2 _ p4 =>
        cases p4
        have p1' : σ[i]? = some (some _) := p1
        have p2' : σ[j]? = some (some _) := p2
        unfold kRR2 at z
        split at z
        · rename_i o ho
          unfold kRR3 at z
          split at z
          · rename_i u hu
            obtain ⟨a, h, z1, z2, z3, z4, z5⟩ := w1.own i o ho
            rw [z1] at p1'
            cases p1'
            obtain ⟨e, g, y1, y2, y3, y4, y5⟩ := w1.own j u hu
            rw [y1] at p2'
            cases p2'
            have hae : a ≠ e := fun x => by subst x; exact hij (w1.dis i j o u a ho hu z1 y1)
            have ekp : kpOf 0 [V.ref a, V.ref e] [.own o, .own u] = [(0, a), (1, e)] := rfl
            refine ⟨G1, [.own o, .own u], _, _, w1.sub, .cons ⟨a, h, rfl, z2, z3, z5⟩ (.cons ⟨e, g, rfl, y2, y3, y5⟩ .nil), by rw [ekp]; exact List.nodup_cons.mpr ⟨by simpa using hae, List.nodup_cons.mpr ⟨by simp, List.nodup_nil⟩⟩, z, fun v H' G' r args' bk rs z' => ?_, fun _ _ _ _ _ _ _ z' => z'.elim⟩
            rw [ekp] at bk
            obtain ⟨o', h', x1, x2, x3, x4⟩ := bk.ow (0, a) List.mem_cons_self
            obtain ⟨u', g', v1, v2, v3, v4⟩ := bk.ow (1, e) (List.mem_cons_of_mem _ List.mem_cons_self)
            have kep : ∀ (c : Addr) (x : HO), H1 c = some x → c ≠ a → c ≠ e → H' c = some x ∧ (G1 c = none → G' c = none) := fun c x h n m => bk.kep c x h fun p hp q => by
              rcases List.mem_cons.mp hp with rfl | hp
              · exact n q.symm
              · rw [List.mem_singleton.mp hp] at q; exact m q.symm
            unfold kRR4 at z'
            split at z'
            · cases Option.some.inj x1
              cases Option.some.inj v1
              have m3 : Fm σ ρ1 H1 G1 ((ρ1.set i (.own o')).set j (.own u')) H' G' := Fm.chg2 ho hu z1 y1 bk.ex kep bk.dm
              exact k _ H' G' r _ (w1.chg2 hij ho hu z1 y1 bk.sub bk.ex kep x2 x3 x4 v2 v3 v4) (m1.trans m3) (Rv.res w1 m3.ow m1.dm rs) z'
            · exact z'.elim
          · exact z.elim
        · exact z.elim
  · exact z.elim
end
section
variable {X : Cx} {b : Bas} {k : Nat} {sp : DSp} {x : Str} {p pos : Pos} {e : Expr} {es : List Expr} {t : TAD}
theorem d_callRR (F : KnownP X.prog X.w X.K X.mg X.base k x sp) (room : Room k X.A) (grd : X.A.guards = some []) (hg : Gl X x) (args : PAD X b (e :: es) t)
    (hd : (x == ("__debug__" : Str)) = false := by decide) (hs : starEach (e :: es) X.env = (false, eval e X.env) :: starEach es X.env := by rfl) (hp : (backTo pos (starEach es X.env)).any (·.1) = false := by rfl) :
    PD X b (.Call (.Name x p) (e :: es) [] pos) (wCallRR sp t) := by
  obtain ⟨f, fd, ps, F, hm, kept, bind⟩ := F.ex
  exact pe_weak (pe_callG F room grd hg hm kept bind pass0 args hd hs hp) fun _ _ _ q => callRR_go q
end
end DL

set_option Elab.async false
set_option maxRecDepth 100000
set_option maxHeartbeats 4000000
/-! DL32: objects of classes: made, their fields read and set; what is never come to; isinstance of a tuple of types; sum. -/
namespace DL
open PySem PySem.Spec PyProof.Rows L2
theorem RpF.gone {K : PySem.W.Frag} {G : Hp} {f : Str} : ∀ {fs : List (Str × V)} {l : List (Str × D)}, RpF K G fs l → l.lookup f = none → fs.lookup f = none
  | _, _, .nil, e => rfl
  | (g, x) :: fs, (_, y) :: l, .cons h1 h2, e => by
    rw [List.lookup_cons] at e ⊢
    cases q : f == g with
    | true => rw [q] at e; cases e
    | false => rw [q] at e; exact RpF.gone h2 e
def kFl3 (Q : R → Rho → Prop) (ρ : Rho) (d : D) : Prop := Q (.dat d) ρ
def kFl2 (f : Str) (Q : R → Rho → Prop) (ρ : Rho) (l : List (Str × D)) : Prop := lk (l.lookup f) (kFl3 Q ρ)
def kFl1 (C : Addr) (f : Str) (Q : R → Rho → Prop) (r : R) (ρ : Rho) : Prop := lk ((con ρ r).bind (insD C)) (kFl2 f Q ρ)
def qSf (C : Addr) (f : Str) (i : Nat) (d : D) (ρ : Rho) (DD : EndsD) : Option Sl → Prop
  | some (.own (.ins C' l)) => C' = C ∧ l.length < 1000 ∧ DD.nx (ρ.set i (.own (.ins C (putD f d l))))
  | _ => False
def kSf2 (C : Addr) (f : Str) (i : Nat) (DD : EndsD) (p : D × Rho) : Prop := qSf C f i p.1 p.2 DD p.2[i]?
def kSf1 (ks : List Nat) (C : Addr) (f : Str) (i : Nat) (DD : EndsD) (r : R) (ρ : Rho) : Prop := lk (frz ks r ρ) (kSf2 C f i DD)
/-- what is never come to -/
def wNever : SD := fun _ _ => False
theorem s_never {X : Cx} {b : Bas} {st : Stmt} : PSD X b st wNever := ⟨fun _ _ _ _ _ _ q => by
  obtain ⟨_, _, _, _, z, _⟩ := q
  exact z.elim⟩
/-- C(..) -/
def kMk3 (Q : R → Rho → Prop) (ρ : Rho) (r : R) : List Sl → Prop
  | .own o :: _ => r = .dat .non ∧ Q (.own o) ρ
  | _ => False
def kMk2 (C : Addr) (sp : DSp) (Q : R → Rho → Prop) (p : List D × Rho) : Prop := sp (.own (.ins C []) :: p.1.map .dat) (kMk3 Q p.2) noX
def kMk1 (ks : List Nat) (C : Addr) (sp : DSp) (Q : R → Rho → Prop) (rs : List R) (ρ : Rho) : Prop := lk (frzs ks rs ρ) (kMk2 C sp Q)
def wMake (ks : List Nat) (C : Addr) (sp : DSp) (t : TAD) : TD := fun ρ Q => t ρ (kMk1 ks C sp Q)
structure MkP (P : Program) (w : World) (K : PySem.W.Frag) (mg : Str → Option Value) (base : Heap) (k : Nat) (x : Str) (C : Addr) (sp : DSp) : Prop where
  ex : ∃ (f : Addr) (fd : FuncData) (ps : List Str), Mk K C f ∧ FnG P w K mg base CX0 k f fd ps (toSp K sp) ∧ mg x = some (.ref C) ∧ Binds K fd ps []
def tMkG (C : Addr) (sp : Sp) (E : XK) (t : TA) : TE := fun σ H Q => t σ H fun vs H1 => ∀ x dx, H1 x = none → H1 dx = none → dx ≠ x → sp (.ref x :: vs) (upd (upd H1 dx (.own x)) x (.ins C dx [])) (fun v H2 => v = .non ∧ Q (.ref x) H2) E
section
variable {X : Cx} {CX : CXT} {k : Nat} {f C : Addr} {fd : FuncData} {ps : List Str} {sp : Sp} {E : XK} {x : Str} {p pos : Pos} {e : Expr} {es : List Expr} {t : TA}
theorem runMkG {pins : List (Addr × Obj)} {σ : L2.St} {H : Hp} {s : Shared} {Q : VK} {us : List Value} {vs : List V} (M : Mk X.K C f) (F : FnG X.prog X.w X.K X.mg X.base CX k f fd ps sp) (room : Room (k + 1) X.A) (grd : X.A.guards = some []) (bind : Binds X.K fd ps []) (pass : Passes CX X E)
    (I : Inv X pins σ H s) (r : Vals vs us) (want : ∀ x dx, H x = none → H dx = none → dx ≠ x → sp (.ref x :: vs) (upd (upd H dx (.own x)) x (.ins C dx [])) (fun v H2 => v = .non ∧ Q (.ref x) H2) E) :
    wpAny (model X.prog X.w) X.A (call (.ref C) us) (EP X pins σ Q) X.xe s := by
  have now := want (s.heap.objs.size + 1) s.heap.objs.size (I.hok.fresh (Nat.le_succ _)) (I.hok.fresh (Nat.le_refl _)) (Nat.ne_of_lt (Nat.lt_succ_self _))
  have I2 := Inv.made (C := C) I
  have r2 : Vals (V.ref (s.heap.objs.size + 1) :: vs) (Value.ref (s.heap.objs.size + 1) :: us) := .cons rfl r
  have count : (Value.ref (s.heap.objs.size + 1) :: us ++ []).length = ps.length := by
    rw [List.append_nil, ← r2.length]
    exact F.len _ _ _ _ now
  have b2 := bind _ (Value.ref (s.heap.objs.size + 1) :: us) I2.kIn count
  rw [List.append_nil] at b2
  refine wpAny_call (make_map (f := f) I.kIn M.makes M.init (beq_iff_eq.mp M.fn) (codeAny_mono (F.run _ X.stack _ _ ⟨Value.ref (s.heap.objs.size + 1) :: us, []⟩ (Value.ref (s.heap.objs.size + 1) :: us) _ _ E (room.make C us []) grd (I2.env0.make C us []) b2 r2 now) fun res s2 out => ?_))
  match res, out with
  | .ok (.ret u), h =>
    obtain ⟨v, H', I3, rv, ev, q3⟩ := I2.after h
    subst ev
    exact ⟨rv, ⟨V.ref (s.heap.objs.size + 1), H', I3, rfl, q3⟩⟩
  | .ok .next, h => exact h.elim
  | .ok .brk, h => exact h.elim
  | .ok .cont, h => exact h.elim
  | .error ex, h => exact pass pins σ _ _ ex s2 I2 h
theorem pe_mkG (M : Mk X.K C f) (F : FnG X.prog X.w X.K X.mg X.base CX k f fd ps sp) (room : Room (k + 1) X.A) (grd : X.A.guards = some []) (hg : Gl X x) (hm : X.mg x = some (.ref C)) (bind : Binds X.K fd ps []) (pass : Passes CX X E)
    (args : PA X (e :: es) t) (hd : (x == ("__debug__" : Str)) = false := by decide) (hs : starEach (e :: es) X.env = (false, eval e X.env) :: starEach es X.env := by rfl) (hp : (backTo pos (starEach es X.env)).any (·.1) = false := by rfl) :
    PE X (.Call (.Name x p) (e :: es) [] pos) (tMkG C sp E t) := by
  constructor
  intro pins s σ H Q inv q
  refine wpAny_Call_Name_kw (ld_glob inv hg hm (PySem.W.callWith_K (h₀ := X.base) inv.ok.mod.kin M.kp (thn (args.run pos pins s σ H _ inv q) fun us s1 h => ?_) hs hp) hd)
  obtain ⟨xs, H1, inv1, vals, want⟩ := h
  exact ⟨inv1.kIn, runMkG M F room grd bind pass inv1 vals want⟩
end
section
variable {K : PySem.W.Frag} {b : Bas} {ks : List Nat} {sp : DSp} {t : TAD} {E : XK} {σ : L2.St} {H : Hp} {Q : VK} {C : Addr}
theorem mk_go (hk : b.kp.map (·.1) = ks) (q : lift K b (wMake ks C sp t) σ H Q) : tMkG C (toSp K sp) E (liftA K b t) σ H Q := by
  obtain ⟨G, ρ, QD, w, q, k⟩ := q
  refine ⟨G, ρ, _, w, q, fun vs H1 G1 rs ρ1 w1 m1 q1 z => ?_⟩
  obtain ⟨p, e1, z⟩ := lk_get z
  obtain ⟨ds, ρ2⟩ := p
  obtain ⟨G2, w2, m2, r2, x2⟩ := Rel.frzs hk w1 m1 q1 e1
  intro x dx nx ndx ne
  have g0 : G2 x = none := w2.sub.gone nx
  have w3 : Rel K b σ (upd H1 dx (.own x)) G2 ρ2 := w2.new ndx
  have nx' : upd H1 dx (.own x) x = none := by rw [upd_ne (Ne.symm ne)]; exact nx
  have w4 : Rel K b σ (upd (upd H1 dx (.own x)) x (.ins C dx [])) G2 ρ2 := w3.new nx'
  have ekp : kpOf 0 (V.ref x :: vs) (.own (.ins C []) :: ds.map .dat) = [(0, x)] := by
    show (0, x) :: kpOf 1 vs (ds.map .dat) = [(0, x)]
    rw [kpOf_dat]
  refine ⟨G2, .own (.ins C []) :: ds.map .dat, _, _, w4.sub, .cons ⟨x, _, rfl, upd_same, g0, .ins .nil⟩ r2.sls, by rw [ekp]; exact List.nodup_cons.mpr ⟨by simp, List.nodup_nil⟩, z, fun v H' G' r args' bk rs z' => ?_, fun _ _ _ _ _ _ _ z' => z'.elim⟩
  rw [ekp] at bk
  obtain ⟨o', h', y1, y2, y3, y4⟩ := bk.ow (0, x) List.mem_cons_self
  have kepx : ∀ (c : Addr) (u : HO), upd (upd H1 dx (.own x)) x (.ins C dx []) c = some u → c ≠ x → H' c = some u ∧ (G2 c = none → G' c = none) := fun c u h n => bk.kep c u h fun p hp e => by
    rw [List.mem_singleton.mp hp] at e
    exact n e.symm
  have kep : ∀ (c : Addr) (u : HO), H1 c = some u → H' c = some u ∧ (G2 c = none → G' c = none) := fun c u h => by
    have n1 : c ≠ x := fun z => by subst z; rw [nx] at h; cases h
    have n2 : c ≠ dx := fun z => by subst z; rw [ndx] at h; cases h
    exact kepx c u (by rw [upd_ne n1, upd_ne n2]; exact h) n1
  have dm : ∀ a, H' a = none → H1 a = none := fun a h => by
    have := bk.dm a h
    by_cases n1 : a = x
    · subst n1; exact nx
    · by_cases n2 : a = dx
      · subst n2; exact ndx
      · rw [upd_ne n1, upd_ne n2] at this; exact this
  unfold kMk3 at z'
  split at z'
  · obtain ⟨rfl, z'⟩ := z'
    cases Option.some.inj y1
    have rn : v = .non := by
      have rs : Rp K G' v .non := rs
      cases rs; rfl
    subst rn
    have m3 : Fm σ ρ2 H1 G2 ρ2 H' G' := Fm.on bk.ex kep dm
    have rr : Res K H1 H' G' (.ref x) (.own o') := ⟨x, h', rfl, y2, y3, y4, nx⟩
    exact ⟨rfl, k (.ref x) H' G' (.own o') ρ2 (w2.on bk.sub bk.ex kep) (m2.trans m3) (Rv.res w2 (fun _ o h => ⟨o, h⟩) m2.dm rr) z'⟩
  · exact z'.elim
end
section
variable {X : Cx} {b : Bas} {k : Nat} {sp : DSp} {x : Str} {p pos : Pos} {e : Expr} {es : List Expr} {t : TAD} {ks : List Nat} {C : Addr}
theorem d_make (hk : b.kp.map (·.1) = ks) (F : MkP X.prog X.w X.K X.mg X.base k x C sp) (room : Room (k + 1) X.A) (grd : X.A.guards = some []) (hg : Gl X x) (args : PAD X b (e :: es) t)
    (hd : (x == ("__debug__" : Str)) = false := by decide) (hs : starEach (e :: es) X.env = (false, eval e X.env) :: starEach es X.env := by rfl) (hp : (backTo pos (starEach es X.env)).any (·.1) = false := by rfl) :
    PD X b (.Call (.Name x p) (e :: es) [] pos) (wMake ks C sp t) := by
  obtain ⟨f, fd, ps, M, F, hm, bind⟩ := F.ex
  exact pe_weak (pe_mkG M F room grd hg hm bind pass0 args hd hs hp) fun _ _ _ q => mk_go hk q
end
section
variable {ρ : Rho} {Q : R → Rho → Prop} {r : R} {rs : List R} {d : D} {ds : List D} {ks : List Nat} {C C' : Addr} {f : Str} {l : List (Str × D)} {ta : TD} {tA : TAD} {DD : EndsD} {i : Nat} {sp : DSp} {o : Own} {a : List Sl}
theorem e_fld : wFld C f ta ρ Q = ta ρ (kFl1 C f Q) := rfl
theorem k_fl1 : kFl1 C f Q r ρ = lk ((con ρ r).bind (insD C)) (kFl2 f Q ρ) := rfl
theorem k_fl2 : kFl2 f Q ρ l = lk (l.lookup f) (kFl3 Q ρ) := rfl
theorem k_fl3 : kFl3 Q ρ d = Q (.dat d) ρ := rfl
theorem insD_i : insD C (.ins C l) = some l := by unfold insD; simp
theorem e_setF : wSetF ks i C f ta DD ρ = ta ρ (kSf1 ks C f i DD) := by
  unfold wSetF
  congr 1
theorem k_sf1 : kSf1 ks C f i DD r ρ = lk (frz ks r ρ) (kSf2 C f i DD) := rfl
theorem k_sf2 : kSf2 C f i DD (d, ρ) = qSf C f i d ρ DD ρ[i]? := rfl
theorem q_sf : qSf C f i d ρ DD (some (.own (.ins C l))) = (l.length < 1000 ∧ DD.nx (ρ.set i (.own (.ins C (putD f d l))))) := propext ⟨fun h => h.2, fun h => ⟨rfl, h⟩⟩
theorem e_make : wMake ks C sp tA ρ Q = tA ρ (kMk1 ks C sp Q) := rfl
theorem k_mk1 : kMk1 ks C sp Q rs ρ = lk (frzs ks rs ρ) (kMk2 C sp Q) := rfl
theorem k_mk2 : kMk2 C sp Q (ds, ρ) = sp (.own (.ins C []) :: ds.map .dat) (kMk3 Q ρ) noX := rfl
theorem k_mk3 : kMk3 Q ρ r (.own o :: a) = (r = .dat .non ∧ Q (.own o) ρ) := rfl
theorem e_never : wNever DD ρ = False := rfl
end

/-! ### isinstance of two types; sum -/
def isiB2 (t : String) : List String → Option Bool
  | [] => some false
  | T :: r => (isiB t T).bind fun c => if c = true then some true else isiB2 t r
theorem kit_any {K : PySem.W.Frag} {t : String} : ∀ {Ts : List String} {c : Bool}, isiB2 t Ts = some c → PySem.W.kitAny K (.type t) (Ts.map Value.type) = some c
  | [], c, h => h
  | T :: r, c, h => by
    unfold isiB2 at h
    cases q : isiB t T with
    | none => rw [q] at h; cases h
    | some b =>
      rw [q] at h
      have h : (if b = true then some true else isiB2 t r) = some c := h
      have e : PySem.W.kitOne K (.type t) (.type T) = some b := kit_ty (isiB_ok q)
      rw [List.map_cons]
      unfold PySem.W.kitAny
      rw [e]
      cases b with
      | true => exact h
      | false => exact kit_any h
def gIsiT (T1 T2 : String) (d : D) : Option Z := ((tyD d).bind fun t => isiB2 t [T1, T2]).map fun c => .d (.bl c)
section
variable {X : Cx} {b : Bas} {e : Expr} {ta : TD} {x y z : Str} {T1 T2 : String} {p p1 p2 p3 pos : Pos} {kk : Nat}
theorem d_isiT (he : PD X b e ta) (hg : Gl X "isinstance") (hm : X.mg "isinstance" = none) (h1 : PE X (.Name y p1) (tC (.ty T1))) (h2 : PE X (.Name z p2) (tC (.ty T2)))
    (hs : starEach [e, .Tuple [.Name y p1, .Name z p2] kk p3] X.env = (false, eval e X.env) :: starEach [.Tuple [.Name y p1, .Name z p2] kk p3] X.env := by rfl)
    (hp : (backTo pos (starEach [.Tuple [.Name y p1, .Name z p2] kk p3] X.env)).any (·.1) = false := by rfl) :
    PD X b (.Call (.Name "isinstance" p) [e, .Tuple [.Name y p1, .Name z p2] kk p3] [] pos) (wUn (gIsiT T1 T2) ta) :=
  pe_weak (pe_callB call_isiT hg hm bt_isinstance (pa_cons (hs := hs) he (pa_cons (pe_tup (pa_cons h1 (pa_cons h2 pa_nil))) pa_nil)) (he := hs) (hpl := hp)) fun σ H Q q => by
    obtain ⟨G, ρ, QD, w, q, k⟩ := q
    refine ⟨G, ρ, _, w, q, fun v H1 G1 r ρ1 w1 m1 q1 z => ?_⟩
    obtain ⟨d, e1, z⟩ := lk_get z
    obtain ⟨u, e2, z⟩ := lk_get z
    refine ⟨(by decide : 2 ≤ sizeLine), fun p hp => ?_⟩
    unfold gIsiT at e2
    cases h1 : tyD d with
    | none => rw [h1] at e2; cases e2
    | some t =>
      rw [h1] at e2
      have e2 : (isiB2 t [T1, T2]).map (fun c => Z.d (.bl c)) = some u := e2
      cases h2 : isiB2 t [T1, T2] with
      | none => rw [h2] at e2; cases e2
      | some c =>
        rw [h2] at e2
        cases e2
        have w2 := w1.new (h := .tup [V.ty T1, V.ty T2]) hp
        have m2 := w1.newF (h := .tup [V.ty T1, V.ty T2]) hp
        have rx := (q1.stay m2).rc w2 e1
        exact ⟨v, p, [.ty T1, .ty T2], .type t, [.type T1, .type T2], c, rfl, upd_same, .cons (.ty T1) (.cons (.ty T2) .nil), tyx w2.sub rx h1, kit_any h2, k _ _ G1 (.dat (.bl c)) ρ1 w2 (m1.trans m2) (.bl c) z⟩
end
def gSum : List D → Option Z
  | [.lst l] => (intsD l).map fun ns => .d (.int ns.sum)
  | _ => none
theorem b_sum {K : PySem.W.Frag} : FnB K (rSum K) gSum := fun H G xs ds z Q xx r hz k => by
  unfold gSum at hz
  split at hz
  · rename_i l
    cases q : intsD l with
    | none => rw [q] at hz; cases hz
    | some ns =>
      rw [q] at hz
      cases hz
      obtain ⟨v, rfl, r'⟩ := pr1 r
      obtain ⟨a, ys, rfl, h1, r1⟩ := r'.lst xx
      rw [intsD_rp r1 q] at h1
      exact ⟨a, ns, rfl, SqL.of h1, k _ H ⟨rfl, .int _⟩⟩
  · cases hz
theorem bt_sum : bootBuiltins "sum" = some (.builtin "sum") := by decide +kernel
end DL

set_option Elab.async false
set_option maxRecDepth 100000
set_option maxHeartbeats 4000000
/-! DL33: == and != by an own __eq__. -/
namespace DL
open PySem PySem.Builtin PySem.W
section
variable {prog : Program} {w : World} {A : Around} {E : Value → Shared → Prop} {s : Shared} {K : Frag} {x C f : Addr} {y b : Value} {ox : Obj} {od : Option Obj}
theorem bound_ne {M : Model} {args : List Value} {Q : Option Value → Shared → Prop} (X : K.In s.heap) (I : InstAt s.heap x ox C od) (hs : findIn K (.ref C) "__ne__" = some (some (.builtin "object.__ne__")))
    (h : wpAny M A (call (.builtin "object.__ne__") (.ref x :: args)) (fun v => Q (some v)) E s) : wpAny M A (callSpecialIfBound? (.ref x) "__ne__" args) Q E s := by
  simp only [callSpecialIfBound?, bindSpecialIfBound?]
  refine wpAny_holding (wpAny_bind (wpAny_bind (wpAny_bind (I.type.here ((looks_findIn X hs).here ?_)))))
  simp only [F.cmp_object.ne.bind]
  refine wpAny_bind (wpAny_askSetting (wpAny_ite ?_))
  have fin : wpAny M A (call (.builtin "object.__ne__") ([.ref x] ++ args) >>= fun v => pure (some v)) Q E s := wpAny_bind (wpAny_mono h (fun v s' h' => wpAny_pure h') fun _ _ h' => h')
  split
  · exact wpAny_bind (wpAny_pure (wpAny_pure fin))
  · exact wpAny_tryCatch (wpAny_bind (wpAny_pure (wpAny_pure fin)))
theorem check_ne {Q : Unit → Shared → Prop} (X : K.In s.heap) (I : InstAt s.heap x ox C od) (hm : mroIn K C (.type "object") = some true) (hq : Q () s) :
    wpAny (model prog w) A (checkBuiltinCall "object.__ne__" ⟨[.ref x, y], []⟩) Q E s := by
  have L0 := I.type (M := model prog w)
  have L1 := looks_mroIn (M := model prog w) X hm
  simp only [checkBuiltinCall, F.cmpKind_ne, F.cmpSplit_ne]
  refine wpAny_bind ?_
  unfold isInstance
  refine wpAny_bind (L0.here (L1.here ?_))
  cases hsig : Manifest.signature? "object.__ne__" with
  | none => exact wpAny_pure hq
  | some sig =>
    have ha := F.cmpArgs_ne (.ref x) y
    simp only [argsOk, hsig] at ha
    have h2 : Bind.checkArgs "object.__ne__" sig ⟨[.ref x, y], []⟩ = pure () := ha
    show wpAny _ A (Bind.checkArgs "object.__ne__" sig ⟨[.ref x, y], []⟩) Q E _
    rw [h2]; exact wpAny_pure hq
theorem ne_own (hu : A.units + 1 < cLine) (X : K.In s.heap) (I : InstAt s.heap x ox C od) (hb : Looks (model prog w) s.heap (typeOf y) (.ref C)) (hn : findIn K (.ref C) "__ne__" = some (some (.builtin "object.__ne__")))
    (hs : findIn K (.ref C) "__eq__" = some (some (.ref f))) (hf : isFn K (.ref f) = true) (hm : mroIn K C (.type "object") = some true) {Q : Value → Shared → Prop}
    (h : wpAny (model prog w) A.in1 (call (.ref f) [.ref x, y]) (fun v s' => ∃ c, v = .bool c ∧ Q (.bool (!c)) s') E s) : wpAny (model prog w) A (richCompare .NotEq (.ref x) y) Q E s := by
  have one : wpAny (model prog w) A (tryCompare (.ref x) (cmpInfo .NotEq).2.1 y) (fun r s' => ∃ c, r = some (.bool c) ∧ Q (.bool c) s') E s := by
    rw [cmpInfo_NotEq]
    simp only [tryCompare]
    refine wpAny_bind (bound_ne X I hn (wpAny_call (codeAny_call_builtin F.cmp_object.ne.plain F.cmpEntry_ne (check_ne X I hm ?_))))
    unfold Builtin.«object.__ne__»
    repeat (first
      | with_reducible refine wpAny_cRoomFor hu ?_
      | (refine wpAny_bind (m := callSpecialIfBound? (.ref x) (Str.ofString "__eq__") [y])
          (ifBound_K X I hs hf (wpAny_mono h (fun r s' hr => by
            obtain ⟨b, rfl, hq⟩ := hr
            repeat (first | exact ⟨_, rfl, hq⟩ | exact wpAny_pure ⟨_, rfl, hq⟩ | exact wpAny_pure (wpAny_pure ⟨_, rfl, hq⟩) | (refine wpAny_bind (m := truthy (.bool _)) (wpAny_truthy_bool ?_)) | wp_step)) fun _ _ e => e)))
      | wp_step)
  unfold richCompare
  simp only [oneThing_ref]
  refine wpAny_holding (wpAny_bind (wpAny_cRoomFor (Nat.lt_of_succ_lt hu) ?_))
  refine wpAny_bind (I.type.here (wpAny_bind (hb.here ?_)))
  rw [show (Value.ref C != Value.ref C) = false from by simp]
  simp only [Bool.false_eq_true, if_false]
  refine wpAny_bind (wpAny_pure ?_)
  simp only [Bool.false_eq_true, if_false]
  refine wpAny_bind (wpAny_mono one (fun r s' z => ?_) fun _ _ e => e)
  obtain ⟨v, rfl, hq⟩ := z
  exact wpAny_pure hq
end
end DL

namespace DL
open PySem PySem.Spec PyProof.Rows L2
/-! ### == and != of two objects of the class at C -/
structure CmpC (K : PySem.W.Frag) (C f : Addr) : Prop where
  eq_ : PySem.W.findIn K (.ref C) "__eq__" = some (some (.ref f))
  fn : PySem.W.isFn K (.ref f) = true
  ne_ : PySem.W.findIn K (.ref C) "__ne__" = some (some (.builtin "object.__ne__"))
  ob : PySem.W.mroIn K C (.type "object") = some true
structure EqP (P : Program) (w : World) (K : PySem.W.Frag) (mg : Str → Option Value) (base : Heap) (k : Nat) (C : Addr) (sp : DSp) : Prop where
  ex : ∃ (f : Addr) (fd : FuncData) (ps : List Str), CmpC K C f ∧ FnG P w K mg base CX0 k f fd ps (toSp K sp) ∧ Binds K fd ps []
def isIns (C : Addr) (x : V) (H : Hp) : Prop := ∃ a dx fs, x = .ref a ∧ H a = some (.ins C dx fs)
def rEqC (C : Addr) (neg : Bool) (sp : Sp) (E : XK) : R2 := fun x y H Q => isIns C x H ∧ isIns C y H ∧ sp [x, y] H (fun v H' => ∃ c, v = .bl c ∧ Q (.bl (neg != c)) H') E
section
variable {X : Cx} {CX : CXT} {k : Nat} {f C : Addr} {fd : FuncData} {ps : List Str} {sp : Sp} {E : XK}
/-- a call from a builtin's body -/
theorem runG1 {pins : List (Addr × Obj)} {σ : L2.St} {H : Hp} {s : Shared} {Q : VK} {us : List Value} {xs : List V} (F : FnG X.prog X.w X.K X.mg X.base CX k f fd ps sp) (room : Room (k + 1) X.A) (grd : X.A.guards = some []) (bind : Binds X.K fd ps []) (pass : Passes CX X E)
    (inv : Inv X pins σ H s) (vals : Vals xs us) (want : sp xs H Q E) : wpAny (model X.prog X.w) X.A.in1 (call (.ref f) us) (EP X pins σ Q) X.xe s := by
  have count : (us ++ []).length = ps.length := by rw [List.append_nil, ← vals.length]; exact F.len _ _ _ _ want
  have b2 := bind s us inv.kIn count
  rw [List.append_nil] at b2
  refine wpAny_call (codeAny_mono (F.run X.A.in1 X.stack s H ⟨us, []⟩ us xs Q E room.in1 grd inv.env0.in1 b2 vals want) fun res s2 out => ?_)
  match res, out with
  | .ok (.ret u), h => exact inv.after h
  | .ok .next, h => exact h.elim
  | .ok .brk, h => exact h.elim
  | .ok .cont, h => exact h.elim
  | .error ex, h => exact pass pins σ H s ex s2 inv h
theorem op_eqC (Cf : CmpC X.K C f) (F : FnG X.prog X.w X.K X.mg X.base CX k f fd ps sp) (room : Room (k + 1) X.A) (grd : X.A.guards = some []) (bind : Binds X.K fd ps []) (pass : Passes CX X E) : OpR X (compareOp .Eq) (rEqC C false sp E) := by
  intro pins s σ H x y v u Q I rx ry h
  obtain ⟨⟨a, dx, fs, rfl, ha⟩, ⟨b, dy, gs, rfl, hb⟩, q⟩ := h
  cases (show v = Value.ref a from rx)
  cases (show u = Value.ref b from ry)
  obtain ⟨mA, J, _⟩ := ins_get I.hok ha
  obtain ⟨mB, J', _⟩ := ins_get I.hok hb
  obtain ⟨od, J, _⟩ := J.look
  obtain ⟨od', J', _⟩ := J'.look
  obtain ⟨m, hF⟩ := I.fr
  show wpAny (model X.prog X.w) X.A (richCompare .Eq (.ref a) (.ref b)) (EP X pins σ Q) X.xe s
  refine PySem.W.cmp_K (op := .Eq) (tb := .ref C) room.units0 hF I.ok.mod.kin J J'.type (by simp [PySem.W.notFirst]) Cf.eq_ Cf.fn ?_
  refine wpAny_mono (runG (us := [.ref a, .ref b]) (xs := [.ref a, .ref b]) F (room.mono (Nat.le_succ _)) grd bind pass I (.cons rfl (.cons rfl .nil)) q) (fun w s' z => ?_) fun _ _ x => x
  obtain ⟨z', H', I', rz, c, ec, qz⟩ := z
  subst ec
  cases rz
  exact ⟨.bl (false != c), H', I', by cases c <;> rfl, qz⟩
theorem op_neC (Cf : CmpC X.K C f) (F : FnG X.prog X.w X.K X.mg X.base CX k f fd ps sp) (room : Room (k + 1) X.A) (grd : X.A.guards = some []) (bind : Binds X.K fd ps []) (pass : Passes CX X E) : OpR X (compareOp .NotEq) (rEqC C true sp E) := by
  intro pins s σ H x y v u Q I rx ry h
  obtain ⟨⟨a, dx, fs, rfl, ha⟩, ⟨b, dy, gs, rfl, hb⟩, q⟩ := h
  cases (show v = Value.ref a from rx)
  cases (show u = Value.ref b from ry)
  obtain ⟨mA, J, _⟩ := ins_get I.hok ha
  obtain ⟨mB, J', _⟩ := ins_get I.hok hb
  obtain ⟨od, J, _⟩ := J.look
  obtain ⟨od', J', _⟩ := J'.look
  show wpAny (model X.prog X.w) X.A (richCompare .NotEq (.ref a) (.ref b)) (EP X pins σ Q) X.xe s
  have hu : X.A.units + 1 < cLine := by
    have h1 : X.A.in1.units < cLine := room.in1.units0
    exact h1
  refine ne_own hu I.kIn J J'.type Cf.ne_ Cf.eq_ Cf.fn Cf.ob ?_
  refine wpAny_mono (runG1 (us := [.ref a, .ref b]) (xs := [.ref a, .ref b]) F room grd bind pass I (.cons rfl (.cons rfl .nil)) q) (fun w s' z => ?_) fun _ _ x => x
  obtain ⟨z', H', I', rz, c, ec, qz⟩ := z
  subst ec
  cases rz
  exact ⟨c, rfl, .bl (true != c), H', I', by cases c <;> rfl, qz⟩
end
def kEo3 (neg : Bool) (Q : R → Rho → Prop) (ρ : Rho) (r : R) : List Sl → Prop := fun _ => match r with
  | .dat (.bl c) => Q (.dat (.bl (neg != c))) ρ
  | _ => False
def kEo2 (neg : Bool) (C : Addr) (sp : DSp) (Q : R → Rho → Prop) (p : List D × Rho) : Prop := match p.1 with
  | [.ins C1 l1, .ins C2 l2] => C1 = C ∧ C2 = C ∧ sp [.dat (.ins C1 l1), .dat (.ins C2 l2)] (kEo3 neg Q p.2) noX
  | _ => False
def kEo1 (ks : List Nat) (neg : Bool) (C : Addr) (sp : DSp) (Q : R → Rho → Prop) (r1 r2 : R) (ρ : Rho) : Prop := lk (frzs ks [r1, r2] ρ) (kEo2 neg C sp Q)
def kEo0 (ks : List Nat) (neg : Bool) (C : Addr) (sp : DSp) (tb : TD) (Q : R → Rho → Prop) (r1 : R) (ρ : Rho) : Prop := tb ρ (kEo1 ks neg C sp Q r1)
/-- a == b, a != b: by the class's own == -/
def wEqO (ks : List Nat) (neg : Bool) (C : Addr) (sp : DSp) (ta tb : TD) : TD := fun ρ Q => ta ρ (kEo0 ks neg C sp tb Q)
theorem eqO_go {K : PySem.W.Frag} {b : Bas} {ks : List Nat} {neg : Bool} {C : Addr} {sp : DSp} {E : XK} {ta tb : TD} {σ : L2.St} {H : Hp} {Q : VK} (hk : b.kp.map (·.1) = ks) (q : lift K b (wEqO ks neg C sp ta tb) σ H Q) : tOp (rEqC C neg (toSp K sp) E) (lift K b ta) (lift K b tb) σ H Q := by
  obtain ⟨G, ρ, QD, w, q, k⟩ := q
  refine ⟨G, ρ, _, w, q, fun v H1 G1 r ρ1 w1 m1 q1 z => ?_⟩
  refine ⟨G1, ρ1, _, w1, z, fun u H2 G2 r2 ρ2 w2 m2 q2 z => ?_⟩
  obtain ⟨p, e1, z⟩ := lk_get z
  obtain ⟨ds, ρ3⟩ := p
  have qa : RvA K b σ H H2 G2 ρ2 [v, u] [r, r2] := .cons (q1.stay m2) (fun a o e1 e2 j o' z1 z2 => by
    subst e1
    obtain ⟨c, h, y1, y2, _⟩ := q1
    rw [e2] at y1
    cases y1
    cases j with
    | succ j => simp at z1
    | zero =>
      simp only [List.getElem?_cons_zero, Option.some.injEq] at z1 z2
      subst z1; subst z2
      obtain ⟨c', h', x1, _, _, _, _, _, x7⟩ := q2
      cases x1
      rw [y2] at x7
      cases x7) (.cons (q2.back m1.dm) (fun _ _ _ _ j _ z1 => by simp at z1) .nil)
  obtain ⟨G3, w3, m3, r3, x3⟩ := Rel.frzs hk w2 (m1.trans m2) qa e1
  unfold kEo2 at z
  split at z
  · rename_i C1 l1 C2 l2 eds
    dsimp only at eds
    subst eds
    obtain ⟨rfl, rfl, z⟩ := z
    have i1 : ∀ {x : V} {C : Addr} {l : List (Str × D)}, Rp K G3 x (.ins C l) → isIns C x H2 := fun h => by
      cases h with
      | ins h1 h2 => exact ⟨_, _, _, rfl, w3.sub _ _ h1⟩
    have s1 := r3.sls (H := H2)
    cases r3 with
    | cons ra r3 =>
      cases r3 with
      | cons rb r3 =>
        refine ⟨i1 ra, i1 rb, G3, [.dat (.ins _ l1), .dat (.ins _ l2)], _, _, w3.sub, s1, ?_, z, fun v' H' G' r' args' bk rs z' => ?_, fun _ _ _ _ _ _ _ z' => z'.elim⟩
        · rw [show kpOf 0 [v, u] [Sl.dat (.ins _ l1), Sl.dat (.ins _ l2)] = [] from kpOf_dat [v, u] [.ins _ l1, .ins _ l2] 0]; exact List.nodup_nil
        · rw [show kpOf 0 [v, u] [Sl.dat (.ins _ l1), Sl.dat (.ins _ l2)] = [] from kpOf_dat [v, u] [.ins _ l1, .ins _ l2] 0] at bk
          have kep : ∀ (c : Addr) (o : HO), H2 c = some o → H' c = some o ∧ (G3 c = none → G' c = none) := fun c o h => bk.kep c o h fun _ hp => by cases hp
          have m4 : Fm σ ρ3 H2 G3 ρ3 H' G' := Fm.on bk.ex kep bk.dm
          unfold kEo3 at z'
          split at z'
          · rename_i c
            have rc : Rp K G' v' (.bl c) := rs
            cases rc
            exact ⟨c, rfl, k _ H' G' (.dat (.bl (neg != c))) ρ3 (w3.on bk.sub bk.ex kep) (m3.trans m4) (.bl _) z'⟩
          · exact z'.elim
  · exact z.elim
section
variable {X : Cx} {b : Bas} {k : Nat} {sp : DSp} {pos : Pos} {ea eb : Expr} {ta tb : TD} {ks : List Nat} {C : Addr}
theorem d_eqO (hk : b.kp.map (·.1) = ks) (F : EqP X.prog X.w X.K X.mg X.base k C sp) (room : Room (k + 1) X.A) (grd : X.A.guards = some []) (ha : PD X b ea ta) (hb : PD X b eb tb) (hm : behindInMarks .Eq eb = false) : PD X b (.Compare ea [.Eq] [eb] pos) (wEqO ks false C sp ta tb) := by
  obtain ⟨f, fd, ps, M, F, bind⟩ := F.ex
  exact pe_weak (pe_cmpR (op_eqC M F room grd bind pass0) ha hb hm) fun _ _ _ q => eqO_go hk q
theorem d_neO (hk : b.kp.map (·.1) = ks) (F : EqP X.prog X.w X.K X.mg X.base k C sp) (room : Room (k + 1) X.A) (grd : X.A.guards = some []) (ha : PD X b ea ta) (hb : PD X b eb tb) (hm : behindInMarks .NotEq eb = false) : PD X b (.Compare ea [.NotEq] [eb] pos) (wEqO ks true C sp ta tb) := by
  obtain ⟨f, fd, ps, M, F, bind⟩ := F.ex
  exact pe_weak (pe_cmpR (op_neC M F room grd bind pass0) ha hb hm) fun _ _ _ q => eqO_go hk q
theorem t_eqO (hk : b.kp.map (·.1) = ks) (F : EqP X.prog X.w X.K X.mg X.base k C sp) (room : Room (k + 1) X.A) (grd : X.A.guards = some []) (ha : PD X b ea ta) (hb : PD X b eb tb) (hm : behindInMarks .Eq eb = false) : PTD X b (.Compare ea [.Eq] [eb] pos) (wBl (wEqO ks false C sp ta tb)) := by
  obtain ⟨f, fd, ps, M, F, bind⟩ := F.ex
  exact pt_weak (pt_cmpR (op_eqC M F room grd bind pass0) ha hb hm) fun _ _ _ q => eqO_go hk (bl_go q)
theorem t_neO (hk : b.kp.map (·.1) = ks) (F : EqP X.prog X.w X.K X.mg X.base k C sp) (room : Room (k + 1) X.A) (grd : X.A.guards = some []) (ha : PD X b ea ta) (hb : PD X b eb tb) (hm : behindInMarks .NotEq eb = false) : PTD X b (.Compare ea [.NotEq] [eb] pos) (wBl (wEqO ks true C sp ta tb)) := by
  obtain ⟨f, fd, ps, M, F, bind⟩ := F.ex
  exact pt_weak (pt_cmpR (op_neC M F room grd bind pass0) ha hb hm) fun _ _ _ q => eqO_go hk (bl_go q)
end
section
variable {ρ : Rho} {Q : R → Rho → Prop} {r r2 : R} {ks : List Nat} {neg c : Bool} {C : Addr} {l1 l2 : List (Str × D)} {ta tb : TD} {sp : DSp} {a : List Sl}
theorem e_eqO : wEqO ks neg C sp ta tb ρ Q = ta ρ (kEo0 ks neg C sp tb Q) := rfl
theorem k_eo0 : kEo0 ks neg C sp tb Q r ρ = tb ρ (kEo1 ks neg C sp Q r) := rfl
theorem k_eo1 : kEo1 ks neg C sp Q r r2 ρ = lk (frzs ks [r, r2] ρ) (kEo2 neg C sp Q) := rfl
theorem k_eo2 : kEo2 neg C sp Q ([.ins C l1, .ins C l2], ρ) = sp [.dat (.ins C l1), .dat (.ins C l2)] (kEo3 neg Q ρ) noX := propext ⟨fun h => h.2.2, fun h => ⟨rfl, rfl, h⟩⟩
theorem k_eo3 : kEo3 neg Q ρ (.dat (.bl c)) a = Q (.dat (.bl (neg != c))) ρ := rfl
end
end DL

set_option Elab.async false
set_option maxRecDepth 100000
set_option maxHeartbeats 4000000
/-! DL34: isinstance of an own class; a static method; a dict of the module. -/
namespace DL
open PySem PySem.Spec PyProof.Rows L2
/-! ### isinstance(x, C) -/
structure IsC (K : PySem.W.Frag) (C : Addr) : Prop where
  ha : PySem.W.findIn K (.ref C) "__class__" = some (some (.builtin "object.__class__"))
  hn : PySem.W.specialIn K (.builtin "object.__class__") "__get__" = some (some (.builtin "getset_descriptor.__get__"))
  ht : PySem.W.takesIn K (.builtin "object.__class__") = some true
  hm : PySem.W.mroIn K C (.type "object") = some true
  ok : ((PySem.W.clsIn K C).isSome && PySem.W.typeIn K (.ref C) == some (.type "type")) = true
  n1 : PySem.W.subIn K (.type "NoneType") (.ref C) = some false
  n2 : PySem.W.subIn K (.type "bool") (.ref C) = some false
  n3 : PySem.W.subIn K (.type "int") (.ref C) = some false
  n4 : PySem.W.subIn K (.type "str") (.ref C) = some false
  n5 : PySem.W.subIn K (.type "list") (.ref C) = some false
  n6 : PySem.W.subIn K (.type "tuple") (.ref C) = some false
  n7 : PySem.W.subIn K (.type "dict") (.ref C) = some false
theorem IsC.oth {K : PySem.W.Frag} {C : Addr} (c : IsC K C) {t : String} (h : t ∈ ["NoneType", "bool", "int", "str", "list", "tuple", "dict"]) : PySem.W.kitOne K (.type t) (.ref C) = some false := by
  have key : PySem.W.subIn K (.type t) (.ref C) = some false := by
    simp only [List.mem_cons, List.not_mem_nil, or_false] at h
    rcases h with rfl | rfl | rfl | rfl | rfl | rfl | rfl
    · exact c.n1
    · exact c.n2
    · exact c.n3
    · exact c.n4
    · exact c.n5
    · exact c.n6
    · exact c.n7
  unfold PySem.W.kitOne
  rw [if_neg (by simp)]
  unfold PySem.W.kitCls
  dsimp only
  rw [if_pos c.ok]
  exact key
theorem tyD_in {d : D} {t : String} (h : tyD d = some t) : t ∈ ["NoneType", "bool", "int", "str", "list", "tuple", "dict"] := by
  cases d <;> first | (cases h; decide) | cases h
def gIsiC (C : Addr) : List D → Option Z
  | [.ins C' _, .cls C2] => if C' = C ∧ C2 = C then some (.d (.bl true)) else none
  | [d, .cls C2] => if C2 = C then (tyD d).map fun _ => .d (.bl false) else none
  | _ => none
theorem Rc.cls {K : PySem.W.Frag} {H G : Hp} {x : V} {C : Addr} (r : Rc K H G x (.cls C)) : x = .ref C := by
  rcases r with r | ⟨a, h, o, _, _, _, z⟩
  · cases r; rfl
  · cases o <;> cases z
theorem b_isiC {K : PySem.W.Frag} {C : Addr} (cl : Cls K C) (c : IsC K C) : FnB K (rIsi K) (gIsiC C) := fun H G xs ds z Q xx r hz k => by
  unfold gIsiC at hz
  split at hz
  · rename_i C' l C2
    split at hz
    · rename_i e
      obtain ⟨rfl, rfl⟩ := e
      cases hz
      obtain ⟨x, y, rfl, r1, r2⟩ := pr2 r
      obtain rfl := r2.cls
      refine ⟨x, .ref C2, .ref C2, .ref C2, true, rfl, .own C2, ?_, by unfold PySem.W.kitOne; rw [if_pos (by simp)], k _ H ⟨rfl, .bl _⟩⟩
      rcases r1 with r1 | ⟨a, hh, o, rfl, h1, r1, e⟩
      · cases r1 with
        | ins q r1 => exact .base (.ins (xx _ _ q) cl c.ha c.hn c.ht c.hm)
      · cases r1 with
        | lst r1 => cases e
        | dct r1 => cases e
        | ins r1 => cases e; exact .base (.ins h1 cl c.ha c.hn c.ht c.hm)
    · cases hz
  · rename_i d C2 _
    split at hz
    · rename_i e
      subst e
      cases h1 : tyD d with
      | none => rw [h1] at hz; cases hz
      | some t =>
        rw [h1] at hz
        cases hz
        obtain ⟨x, y, rfl, r1, r2⟩ := pr2 r
        obtain rfl := r2.cls
        exact ⟨x, .ref C2, .type t, .ref C2, false, rfl, .own C2, tyx xx r1 h1, c.oth (tyD_in h1), k _ H ⟨rfl, .bl _⟩⟩
    · cases hz
  · cases hz
section
variable {X : Cx} {b : Bas} {x : Str} {pos : Pos} {C : Addr}
theorem d_globC (hg : Gl X x) (hm : X.mg x = some (.ref C)) (hd : (x == ("__debug__" : Str)) = false := by decide) : PD X b (.Name x pos) (wC (.cls C)) := d_c (.cls C) (pe_glob (v := .ref C) hg hm rfl hd)
end

/-! ### C.m(..), a static method -/
structure StatP (P : Program) (w : World) (K : PySem.W.Frag) (mg : Str → Option Value) (base : Heap) (k : Nat) (x m : Str) (sp : DSp) : Prop where
  ex : ∃ (C p g : Addr) (mc : Value) (fd : FuncData) (ps : List Str), mg x = some (.ref C) ∧ ClX.CRead K C mc ∧ PySem.W.findCls K (.ref C) mc m = some (.get (.builtin "staticmethod.__get__") (.ref p) .none (.ref C)) ∧
    (∃ rest, PySem.W.recIn K p "staticmethod" = some (.ref g :: rest)) ∧ PySem.W.keepIn K (.ref g) = true ∧ FnG P w K mg base CX0 k g fd ps (toSp K sp) ∧ Binds K fd ps []
section
variable {X : Cx} {CX : CXT} {k : Nat} {f C pr : Addr} {mc : Value} {fd : FuncData} {ps : List Str} {sp : Sp} {E : XK} {x m : Str} {p apos pos : Pos} {e : Expr} {es : List Expr} {t : TA} {pl : Sem Bool}
theorem pe_statG (hg : Gl X x) (hm : X.mg x = some (.ref C)) (r : ClX.CRead X.K C mc) (at_ : PySem.W.findCls X.K (.ref C) mc m = some (.get (.builtin "staticmethod.__get__") (.ref pr) .none (.ref C)))
    (rc : ∃ rest, PySem.W.recIn X.K pr "staticmethod" = some (.ref f :: rest)) (kept : PySem.W.keepIn X.K (.ref f) = true)
    (F : FnG X.prog X.w X.K X.mg X.base CX k f fd ps sp) (room : Room k X.A) (grd : X.A.guards = some []) (bind : Binds X.K fd ps []) (pass : Passes CX X E)
    (args : PA X (e :: es) t) (hd : (x == ("__debug__" : Str)) = false := by decide) (hs : starEach (e :: es) X.env = (false, eval e X.env) :: starEach es X.env := by rfl) (hp : (backTo pos (starEach es X.env)).any (·.1) = false := by rfl)
    (ht : eval (.Call (.Attribute (.Name x p) m apos) (e :: es) [] pos) X.env = (do
      let ov ← eval (.Name x p) X.env
      standAt apos.atName
      let (f, first) ← holding [ov] (getMethod ov m pl)
      callWith pos f first (backTo pos (starEach (e :: es) X.env)) (backToKw pos (keywordEach [] X.env))) := by rfl) :
    PE X (.Call (.Attribute (.Name x p) m apos) (e :: es) [] pos) (tCallG sp E t) := by
  refine ⟨fun pins s σ H Q I h => ?_⟩
  refine PySem.W.methodCall_KW (pl := pl) (thn ((pe_glob (pos := p) (v := .ref C) hg hm rfl hd).run pins s σ H (fun v H1 => v = .ref C ∧ t σ H1 fun vs H2 => sp vs H2 Q E) I ⟨rfl, h⟩) fun u s1 ⟨y, H1, I1, ry, ey, q⟩ => ?_) ht
  subst ey
  obtain rfl : u = Value.ref C := ry
  obtain ⟨rest, hrec⟩ := rc
  refine PySem.W.method_cls I1.kIn r.ga (PySem.W.cls_bind I1.kIn r.rd at_ (wpAny_call (PySem.W.sm_get (s := { s1 with toks := s1.toks + 1 }) I1.kIn hrec (PySem.W.handed_on rfl ?_))))
  have I2 : Inv X pins σ H1 { s1 with toks := s1.toks + 1 } := I1.tok _
  refine PySem.W.callWith_K (h₀ := X.base) I2.ok.mod.kin kept (thn (args.run pos pins _ σ H1 _ I2 q) fun us s2 h2 => ?_) hs hp
  obtain ⟨xs, H2, I3, vals, want⟩ := h2
  exact ⟨I3.kIn, runG F room grd bind pass I3 vals want⟩
end
section
variable {X : Cx} {b : Bas} {k : Nat} {sp : DSp} {x m : Str} {p apos pos : Pos} {e : Expr} {es : List Expr} {t : TAD} {ks : List Nat} {pl : Sem Bool}
theorem d_stat (hk : b.kp.map (·.1) = ks) (F : StatP X.prog X.w X.K X.mg X.base k x m sp) (room : Room k X.A) (grd : X.A.guards = some []) (hg : Gl X x) (args : PAD X b (e :: es) t)
    (hd : (x == ("__debug__" : Str)) = false := by decide) (hs : starEach (e :: es) X.env = (false, eval e X.env) :: starEach es X.env := by rfl) (hp : (backTo pos (starEach es X.env)).any (·.1) = false := by rfl)
    (ht : eval (.Call (.Attribute (.Name x p) m apos) (e :: es) [] pos) X.env = (do
      let ov ← eval (.Name x p) X.env
      standAt apos.atName
      let (f, first) ← holding [ov] (getMethod ov m pl)
      callWith pos f first (backTo pos (starEach (e :: es) X.env)) (backToKw pos (keywordEach [] X.env))) := by rfl) :
    PD X b (.Call (.Attribute (.Name x p) m apos) (e :: es) [] pos) (wCall ks sp t) := by
  obtain ⟨C, pr, g, mc, fd, ps, hm, r, at_, rc, kept, F, bind⟩ := F.ex
  exact pe_weak (pe_statG hg hm r at_ rc kept F room grd bind pass0 args hd hs hp ht) fun _ _ _ q => call_go hk q
end

/-! ### a dict of the module's top, with texts as keys and whole numbers at them -/
def TabG (K : PySem.W.Frag) (d : Addr) : List (Str × Option Int) → Prop
  | [] => True
  | (z, none) :: r => PySem.W.nsIn K d z = some none ∧ TabG K d r
  | (z, some i) :: r => (∃ t, PySem.W.nsIn K d z = some (some (.int i t))) ∧ TabG K d r
structure TabK (K : PySem.W.Frag) (w : World) (d : Addr) (tab : List (Str × Option Int)) : Prop where
  dic : ∃ es n, KDict K w d es n
  get : TabG K d tab
theorem TabG.at {K : PySem.W.Frag} {d : Addr} : ∀ {tab : List (Str × Option Int)} {z : Str} {r : Option Int}, TabG K d tab → tab.lookup z = some r → ∃ u : Option Value, PySem.W.nsIn K d z = some u ∧ (match r with
    | none => u = none
    | some i => ∃ t, u = some (.int i t))
  | [], z, r, _, e => by cases e
  | (y, o) :: tab, z, r, h, e => by
    rw [List.lookup_cons] at e
    cases q : z == y with
    | true =>
      rw [q] at e
      cases e
      obtain rfl := eq_of_beq q
      cases o with
      | none => exact ⟨none, h.1, rfl⟩
      | some i => obtain ⟨⟨t, h1⟩, _⟩ := h; exact ⟨some (.int i t), h1, t, rfl⟩
    | false =>
      rw [q] at e
      cases o with
      | none => exact TabG.at h.2 e
      | some i => exact TabG.at h.2 e
def gInTab (neg : Bool) (a : Addr) (tab : List (Str × Option Int)) : D → D → Option Z
  | .str z, .cls c => if c = a then (tab.lookup z).map fun r => .d (.bl (neg != r.isSome)) else none
  | _, _ => none
def gIxTab (a : Addr) (tab : List (Str × Option Int)) : D → D → Option Z
  | .cls c, .str z => if c = a then ((tab.lookup z).bind id).map fun i => .d (.int i) else none
  | _, _ => none
def rInTab (K : PySem.W.Frag) (neg : Bool) (a : Addr) : R2 := fun x y H Q => ∃ (z : Str) (r : Option Value), x = .str z ∧ y = .ref a ∧ PySem.W.nsIn K a z = some r ∧ Q (.bl (neg != r.isSome)) H
def rIxTab (K : PySem.W.Frag) (a : Addr) : R2 := fun x y H Q => ∃ (z : Str) (u0 : Value) (v0 : V), x = .ref a ∧ y = .str z ∧ PySem.W.nsIn K a z = some (some u0) ∧ RelV v0 u0 ∧ Q v0 H
theorem o_inTab {K : PySem.W.Frag} {w : World} {neg : Bool} {a : Addr} {tab : List (Str × Option Int)} (T : TabK K w a tab) : Op2 K (rInTab K neg a) (gInTab neg a tab) := fun H G x y d e z Q xx rx ry hz k => by
  unfold gInTab at hz
  split at hz
  · rename_i z' c
    split at hz
    · rename_i ec
      subst ec
      obtain rfl := ry.cls
      obtain rfl := rx.str
      cases q : tab.lookup z' with
      | none => rw [q] at hz; cases hz
      | some r =>
        rw [q] at hz
        cases hz
        obtain ⟨u, h1, h2⟩ := T.get.at q
        refine ⟨z', u, rfl, rfl, h1, ?_⟩
        have : u.isSome = r.isSome := by
          cases r with
          | none => rw [show u = none from h2]; rfl
          | some i => obtain ⟨t, h2⟩ := (show ∃ t, u = some (.int i t) from h2); rw [h2]; rfl
        rw [this]
        exact k _ H ⟨rfl, .bl _⟩
    · cases hz
  · cases hz
theorem o_ixTab {K : PySem.W.Frag} {w : World} {a : Addr} {tab : List (Str × Option Int)} (T : TabK K w a tab) : Op2 K (rIxTab K a) (gIxTab a tab) := fun H G x y d e z Q xx rx ry hz k => by
  unfold gIxTab at hz
  split at hz
  · rename_i c z'
    split at hz
    · rename_i ec
      subst ec
      obtain rfl := rx.cls
      obtain rfl := ry.str
      cases q : tab.lookup z' with
      | none => rw [q] at hz; cases hz
      | some r =>
        rw [q] at hz
        cases r with
        | none => cases hz
        | some i =>
          cases hz
          obtain ⟨u, h1, t, rfl⟩ := T.get.at q
          exact ⟨z', .int i t, .int i, rfl, rfl, h1, ⟨t, rfl⟩, k _ H ⟨rfl, .int _⟩⟩
    · cases hz
  · cases hz
section
variable {X : Cx} {a : Addr} {tab : List (Str × Option Int)}
theorem op_inTab (T : TabK X.K X.w a tab) : OpR X (compareOp .In) (rInTab X.K false a) := fun pins s σ H x y v u Q I rx ry h => by
  obtain ⟨es, n, D⟩ := T.dic
  obtain ⟨z, r, e1, e2, e3, q⟩ := h
  exact op_in_kd D pins s σ H x y v u Q I rx ry ⟨z, r, e1, e2, e3, by cases hh : r.isSome <;> rw [hh] at q <;> exact q⟩
theorem op_notInTab (T : TabK X.K X.w a tab) : OpR X (compareOp .NotIn) (rInTab X.K true a) := fun pins s σ H x y v u Q I rx ry h => by
  obtain ⟨es, n, D⟩ := T.dic
  obtain ⟨z, r, e1, e2, e3, q⟩ := h
  exact op_notIn_kd D pins s σ H x y v u Q I rx ry ⟨z, r, e1, e2, e3, by cases hh : r.isSome <;> rw [hh] at q <;> exact q⟩
theorem ix_tab (T : TabK X.K X.w a tab) : IxR X (rIxTab X.K a) := by
  intro value slice pins s σ H x y v u Q I rx ry h hs
  obtain ⟨es, n, D⟩ := T.dic
  obtain ⟨z, u0, v0, rfl, rfl, e, r, q⟩ := h
  cases rx
  obtain ⟨t, rfl⟩ := ry
  have hm := PySem.W.mapOf_K (prog := X.prog) (w := X.w) I.kIn D.at_ D.lit
  exact tail_any hm.typeIs F.slot_dict_getitem.lookup (wpAny_getItem_of (PySem.strKind_is X.prog X.w z t) hm (PySem.W.find_K D.at_ e) ⟨v0, H, I.tok _, r, q⟩) hs
end

/-! ### xs.count(i), xs a list of whole numbers, its own name's or data; str(i) -/
def isLst : Option D → Prop
  | some (.lst _) => True
  | _ => False
def gCntD : D → List D → Option Z
  | .lst l, [.int i] => (intsD l).map fun ns => .d (.int (ns.count i : Nat))
  | _, _ => none
def kCn3 (Q : R → Rho → Prop) (ρ : Rho) (z : Z) : Prop := Q z.r ρ
def kCn2 (Q : R → Rho → Prop) (ρ : Rho) (rs : List R) (d1 : D) : Prop := lk ((conL ρ rs).bind (gCntD d1)) (kCn3 Q ρ)
def kCn1 (Q : R → Rho → Prop) (r1 : R) (rs : List R) (ρ : Rho) : Prop := lk (con ρ r1) (kCn2 Q ρ rs)
def kCn0 (tA : TAD) (Q : R → Rho → Prop) (r1 : R) (ρ : Rho) : Prop := isLst (con ρ r1) ∧ tA ρ (kCn1 Q r1)
def wCnt (ta : TD) (tA : TAD) : TD := fun ρ Q => ta ρ (kCn0 tA Q)
theorem cnt_go {K : PySem.W.Frag} {b : Bas} {ta : TD} {tA : TAD} {σ : L2.St} {H : Hp} {Q : VK} (q : lift K b (wCnt ta tA) σ H Q) : tBM K "list" (L2.rCntI K) (lift K b ta) (liftA K b tA) σ H Q := by
  obtain ⟨G, ρ, QD, w, q, k⟩ := q
  refine ⟨G, ρ, _, w, q, fun v H1 G1 r1 ρ1 w1 m1 q1 z1 => ?_⟩
  obtain ⟨hl, z1⟩ := z1
  have ty : tyV K "list" v H1 := by
    cases e : con ρ1 r1 with
    | none => rw [e] at hl; exact hl.elim
    | some d =>
      rw [e] at hl
      cases d <;> try exact hl.elim
      obtain ⟨a, xs, rfl, h1, _⟩ := (q1.rc w1 e).lst w1.sub
      exact .inl ⟨rfl, xs, SqL.of h1⟩
  refine ⟨ty, G1, ρ1, _, w1, z1, fun us H2 G2 rs ρ2 w2 m2 q2 z2 => ?_⟩
  obtain ⟨d1, e1, z2⟩ := lk_get z2
  obtain ⟨z, e2, z2⟩ := lk_get z2
  cases e3 : conL ρ2 rs with
  | none => rw [e3] at e2; cases e2
  | some ds =>
    rw [e3] at e2
    have e2 : gCntD d1 ds = some z := e2
    unfold gCntD at e2
    split at e2
    · rename_i l i _
      cases e4 : intsD l with
      | none => rw [e4] at e2; cases e2
      | some ns =>
        rw [e4] at e2
        cases e2
        obtain ⟨a, xs, rfl, h1, h2⟩ := ((q1.stay m2).rc w2 e1).lst w2.sub
        obtain ⟨y, rfl, r'⟩ := pr1 (q2.rc w2 e3)
        obtain rfl := r'.int
        exact ⟨a, ns, i, rfl, rfl, SqL.of (by rw [h1, intsD_rp h2 e4]), k _ H2 G2 (.dat (.int _)) ρ2 w2 (m1.trans m2) (.int _) z2⟩
    · cases e2
section
variable {X : Cx} {b : Bas} {o e : Expr} {es : List Expr} {ta : TD} {t : TAD} {apos cpos : Pos}
theorem d_cnt (ho : PD X b o ta) (ha : PAD X b (e :: es) t)
    (hbase : attributeBase o "count" X.env (eval o X.env) = eval o X.env := by rfl)
    (hf : ((backTo cpos (starEach (e :: es) X.env)).all (fun x => !x.1) && (backToKw cpos (keywordEach [] X.env)).all (fun x => x.1.isSome) && decide ((e :: es).length + ([] : List Keyword).length + (if ([] : List Keyword).isEmpty then 0 else 1) < 30)) = true := by rfl)
    (hline : (apos.endLine == cpos.line) = true := by rfl) (he : starEach (e :: es) X.env = (false, eval e X.env) :: starEach es X.env := by rfl) (hpl : (backTo cpos (starEach es X.env)).any (·.1) = false := by rfl) :
    PD X b (.Call (.Attribute o "count" apos) (e :: es) [] cpos) (wCnt ta t) := pe_weak (pe_bm F.plainAttrs_list F.slot_list_count F.type_list_count mt_lcount ho ha hbase hf hline he hpl) fun _ _ _ q => cnt_go q
end
def gStrI0 : List D → Option Z
  | [.int i] => if i.natAbs.log2 < 1920 then some (.d (.str (toString i))) else none
  | _ => none
theorem gStrI_ex : ∃ f : List D → Option Z, f = gStrI0 := ⟨_, rfl⟩
/-- str(i): not to be unfolded by the kernel -/
noncomputable def gStrI : List D → Option Z := Classical.choose gStrI_ex
theorem gStrI_eq : gStrI = gStrI0 := Classical.choose_spec gStrI_ex
theorem b_str {K : PySem.W.Frag} : FnB K (fun xs H Q => ∃ i : Int, xs = [.int i] ∧ i.natAbs.log2 < 1920 ∧ Q (.str (toString i)) H) gStrI := fun H G xs ds z Q xx r hz k => by
  rw [gStrI_eq] at hz
  unfold gStrI0 at hz
  split at hz
  · rename_i i
    split at hz
    · rename_i h
      cases hz
      obtain ⟨x, rfl, r'⟩ := pr1 r
      obtain rfl := r'.int
      exact ⟨i, rfl, h, k _ H ⟨rfl, .str _⟩⟩
    · cases hz
  · cases hz
section
variable {ρ : Rho} {Q : R → Rho → Prop} {r : R} {rs : List R} {d : D} {z : Z} {ta : TD} {tA : TAD} {l : List D} {i : Int}
theorem e_cnt : wCnt ta tA ρ Q = ta ρ (kCn0 tA Q) := rfl
theorem k_cn0 : kCn0 tA Q r ρ = (isLst (con ρ r) ∧ tA ρ (kCn1 Q r)) := rfl
theorem k_cn1 : kCn1 Q r rs ρ = lk (con ρ r) (kCn2 Q ρ rs) := rfl
theorem k_cn2 : kCn2 Q ρ rs d = lk ((conL ρ rs).bind (gCntD d)) (kCn3 Q ρ) := rfl
theorem k_cn3 : kCn3 Q ρ z = Q z.r ρ := rfl
theorem isLst_l : isLst (some (.lst l)) = True := rfl
theorem cntD_i : gCntD (.lst l) [.int i] = (intsD l).map fun ns => .d (.int (ns.count i : Nat)) := rfl
end
end DL

set_option Elab.async false
set_option maxRecDepth 100000
set_option maxHeartbeats 4000000
/-! DL35: operators of two objects of one class, by the class's own defs. -/
namespace DL
open PySem PySem.Spec PyProof.Rows L2
/-- C's def of the operator's name -/
structure BinC (K : PySem.W.Frag) (C f : Addr) (nm : Str) : Prop where
  first : PySem.W.selfFirst K C = true
  at_ : PySem.W.findIn K (.ref C) nm = some (some (.ref f))
  fn : PySem.W.isFn K (.ref f) = true
structure BinP (P : Program) (w : World) (K : PySem.W.Frag) (mg : Str → Option Value) (base : Heap) (k : Nat) (C : Addr) (nm : Str) (sp : DSp) : Prop where
  ex : ∃ (f : Addr) (fd : FuncData) (ps : List Str), BinC K C f nm ∧ FnG P w K mg base CX0 k f fd ps (toSp K sp) ∧ Binds K fd ps []
def rBinC (C : Addr) (sp : Sp) (E : XK) : R2 := fun x y H Q => isIns C x H ∧ isIns C y H ∧ sp [x, y] H Q E
theorem cmpBack_of {v : V} {u : Value} {Q : Value → Shared → Prop} {s : Shared} (r : RelV v u) (h : Q u s) : PySem.W.CmpBack Q u s := by
  cases v with
  | non => cases (show u = Value.none from r); exact h
  | bl c => cases (show u = Value.bool c from r); exact h
  | int i => obtain ⟨t, rfl⟩ := (show ∃ t, u = Value.int i t from r); exact h
  | str x => obtain ⟨t, rfl⟩ := (show ∃ t, u = Value.str x t from r); exact h
  | byt c => obtain ⟨t, rfl⟩ := (show ∃ t, u = Value.bytes c t from r); exact h
  | flt c => obtain ⟨t, rfl⟩ := (show ∃ t, u = Value.float c t from r); exact h
  | ref a => cases (show u = Value.ref a from r); exact h
  | ty n => cases (show u = Value.type n from r); exact h
section
variable {X : Cx} {CX : CXT} {k : Nat} {f C : Addr} {fd : FuncData} {ps : List Str} {sp : Sp} {E : XK}
theorem op_binC {op : Operator} (Cf : BinC X.K C f (PySem.dunder op.info.2)) (F : FnG X.prog X.w X.K X.mg X.base CX k f fd ps sp) (room : Room k X.A) (grd : X.A.guards = some []) (bind : Binds X.K fd ps []) (pass : Passes CX X E) : OpR X (binaryOp op) (rBinC C sp E) := by
  intro pins s σ H x y v u Q I rx ry h
  obtain ⟨⟨a, dx, fs, rfl, ha⟩, ⟨b, dy, gs, rfl, hb⟩, q⟩ := h
  cases (show v = Value.ref a from rx)
  cases (show u = Value.ref b from ry)
  obtain ⟨mA, J, _⟩ := ins_get I.hok ha
  obtain ⟨mB, J', _⟩ := ins_get I.hok hb
  obtain ⟨od, J, _⟩ := J.look
  obtain ⟨od', J', _⟩ := J'.look
  obtain ⟨m, hF⟩ := I.fr
  refine PySem.W.binop_K hF I.ok.mod.kin J J'.type Cf.first Cf.at_ Cf.fn ?_
  refine wpAny_mono (runG (us := [.ref a, .ref b]) (xs := [.ref a, .ref b]) F room grd bind pass I (.cons rfl (.cons rfl .nil)) q) (fun w s' z => ?_) fun _ _ x => x
  obtain ⟨z', H', I', rz, qz⟩ := z
  exact cmpBack_of (Q := EP X pins σ Q) rz ⟨z', H', I', rz, qz⟩
theorem op_ordC {op : CmpOp} (hop : compareOp op = richCompare op) (Cf : BinC X.K C f (cmpInfo op).2.1) (F : FnG X.prog X.w X.K X.mg X.base CX k f fd ps sp) (room : Room (k + 1) X.A) (grd : X.A.guards = some []) (bind : Binds X.K fd ps []) (pass : Passes CX X E) : OpR X (compareOp op) (rBinC C sp E) := by
  intro pins s σ H x y v u Q I rx ry h
  obtain ⟨⟨a, dx, fs, rfl, ha⟩, ⟨b, dy, gs, rfl, hb⟩, q⟩ := h
  cases (show v = Value.ref a from rx)
  cases (show u = Value.ref b from ry)
  obtain ⟨mA, J, _⟩ := ins_get I.hok ha
  obtain ⟨mB, J', _⟩ := ins_get I.hok hb
  obtain ⟨od, J, _⟩ := J.look
  obtain ⟨od', J', _⟩ := J'.look
  obtain ⟨m, hF⟩ := I.fr
  rw [hop]
  refine PySem.W.cmp_K (op := op) (tb := .ref C) room.units0 hF I.ok.mod.kin J J'.type (by simp [PySem.W.notFirst]) Cf.at_ Cf.fn ?_
  refine wpAny_mono (runG (us := [.ref a, .ref b]) (xs := [.ref a, .ref b]) F (room.mono (Nat.le_succ _)) grd bind pass I (.cons rfl (.cons rfl .nil)) q) (fun w s' z => ?_) fun _ _ x => x
  obtain ⟨z', H', I', rz, qz⟩ := z
  exact cmpBack_of (Q := EP X pins σ Q) rz ⟨z', H', I', rz, qz⟩
end
def kBo2 (C : Addr) (sp : DSp) (Q : R → Rho → Prop) (p : List D × Rho) : Prop := match p.1 with
  | [.ins C1 l1, .ins C2 l2] => C1 = C ∧ C2 = C ∧ sp [.dat (.ins C1 l1), .dat (.ins C2 l2)] (kRetQ Q p.2) noX
  | _ => False
def kBo1 (ks : List Nat) (C : Addr) (sp : DSp) (Q : R → Rho → Prop) (r1 r2 : R) (ρ : Rho) : Prop := lk (frzs ks [r1, r2] ρ) (kBo2 C sp Q)
def kBo0 (ks : List Nat) (C : Addr) (sp : DSp) (tb : TD) (Q : R → Rho → Prop) (r1 : R) (ρ : Rho) : Prop := tb ρ (kBo1 ks C sp Q r1)
/-- a + b and its like, by the class's own def -/
def wBinO (ks : List Nat) (C : Addr) (sp : DSp) (ta tb : TD) : TD := fun ρ Q => ta ρ (kBo0 ks C sp tb Q)
theorem binO_go {K : PySem.W.Frag} {b : Bas} {ks : List Nat} {C : Addr} {sp : DSp} {E : XK} {ta tb : TD} {σ : L2.St} {H : Hp} {Q : VK} (hk : b.kp.map (·.1) = ks) (q : lift K b (wBinO ks C sp ta tb) σ H Q) : tOp (rBinC C (toSp K sp) E) (lift K b ta) (lift K b tb) σ H Q := by
  obtain ⟨G, ρ, QD, w, q, k⟩ := q
  refine ⟨G, ρ, _, w, q, fun v H1 G1 r ρ1 w1 m1 q1 z => ?_⟩
  refine ⟨G1, ρ1, _, w1, z, fun u H2 G2 r2 ρ2 w2 m2 q2 z => ?_⟩
  obtain ⟨p, e1, z⟩ := lk_get z
  obtain ⟨ds, ρ3⟩ := p
  have qa : RvA K b σ H H2 G2 ρ2 [v, u] [r, r2] := .cons (q1.stay m2) (fun a o e1 e2 j o' z1 z2 => by
    subst e1
    obtain ⟨c, h, y1, y2, _⟩ := q1
    rw [e2] at y1
    cases y1
    cases j with
    | succ j => simp at z1
    | zero =>
      simp only [List.getElem?_cons_zero, Option.some.injEq] at z1 z2
      subst z1; subst z2
      obtain ⟨c', h', x1, _, _, _, _, _, x7⟩ := q2
      cases x1
      rw [y2] at x7
      cases x7) (.cons (q2.back m1.dm) (fun _ _ _ _ j _ z1 => by simp at z1) .nil)
  obtain ⟨G3, w3, m3, r3, x3⟩ := Rel.frzs hk w2 (m1.trans m2) qa e1
  unfold kBo2 at z
  split at z
  · rename_i C1 l1 C2 l2 eds
    dsimp only at eds
    subst eds
    obtain ⟨rfl, rfl, z⟩ := z
    have i1 : ∀ {x : V} {C : Addr} {l : List (Str × D)}, Rp K G3 x (.ins C l) → isIns C x H2 := fun h => by
      cases h with
      | ins h1 h2 => exact ⟨_, _, _, rfl, w3.sub _ _ h1⟩
    have s1 := r3.sls (H := H2)
    cases r3 with
    | cons ra r3 =>
      cases r3 with
      | cons rb r3 =>
        have ekp : ∀ C1 C2 : Addr, kpOf 0 [v, u] [Sl.dat (.ins C1 l1), Sl.dat (.ins C2 l2)] = [] := fun C1 C2 => kpOf_dat [v, u] [.ins C1 l1, .ins C2 l2] 0
        refine ⟨i1 ra, i1 rb, G3, [.dat (.ins _ l1), .dat (.ins _ l2)], _, _, w3.sub, s1, by rw [ekp]; exact List.nodup_nil, z, fun v' H' G' r' args' bk rs z' => ?_, fun _ _ _ _ _ _ _ z' => z'.elim⟩
        rw [ekp] at bk
        have kep : ∀ (c : Addr) (o : HO), H2 c = some o → H' c = some o ∧ (G3 c = none → G' c = none) := fun c o h => bk.kep c o h fun _ hp => by cases hp
        have m4 : Fm σ ρ3 H2 G3 ρ3 H' G' := Fm.on bk.ex kep bk.dm
        exact k v' H' G' r' ρ3 (w3.on bk.sub bk.ex kep) (m3.trans m4) (Rv.res w3 (fun _ o h => ⟨o, h⟩) m3.dm rs) z'
  · exact z.elim
section
variable {X : Cx} {b : Bas} {k : Nat} {sp : DSp} {pos : Pos} {ea eb : Expr} {ta tb : TD} {ks : List Nat} {C : Addr}
theorem d_binO {op : Operator} (hk : b.kp.map (·.1) = ks) (F : BinP X.prog X.w X.K X.mg X.base k C (PySem.dunder op.info.2) sp) (room : Room k X.A) (grd : X.A.guards = some []) (ha : PD X b ea ta) (hb : PD X b eb tb) : PD X b (.BinOp ea op eb pos) (wBinO ks C sp ta tb) := by
  obtain ⟨f, fd, ps, M, F, bind⟩ := F.ex
  exact pe_weak (pe_op (op_binC M F room grd bind pass0) ha hb) fun _ _ _ q => binO_go hk q
theorem d_binN {op : Operator} {nm : Str} (hn : PySem.dunder op.info.2 = nm) (hk : b.kp.map (·.1) = ks) (F : BinP X.prog X.w X.K X.mg X.base k C nm sp) (room : Room k X.A) (grd : X.A.guards = some []) (ha : PD X b ea ta) (hb : PD X b eb tb) : PD X b (.BinOp ea op eb pos) (wBinO ks C sp ta tb) := by
  subst hn
  exact d_binO hk F room grd ha hb
theorem dn_add : PySem.dunder Operator.Add.info.2 = ("__add__" : Str) := by decide +kernel
theorem dn_mul : PySem.dunder Operator.Mult.info.2 = ("__mul__" : Str) := by decide +kernel
theorem dn_sub : PySem.dunder Operator.Sub.info.2 = ("__sub__" : Str) := by decide +kernel
theorem d_ordO {op : CmpOp} (hop : compareOp op = richCompare op) (hk : b.kp.map (·.1) = ks) (F : BinP X.prog X.w X.K X.mg X.base k C (cmpInfo op).2.1 sp) (room : Room (k + 1) X.A) (grd : X.A.guards = some []) (ha : PD X b ea ta) (hb : PD X b eb tb) (hm : behindInMarks op eb = false) : PD X b (.Compare ea [op] [eb] pos) (wBinO ks C sp ta tb) := by
  obtain ⟨f, fd, ps, M, F, bind⟩ := F.ex
  exact pe_weak (pe_cmpR (op_ordC hop M F room grd bind pass0) ha hb hm) fun _ _ _ q => binO_go hk q
end
section
variable {ρ : Rho} {Q : R → Rho → Prop} {r r2 : R} {ks : List Nat} {C : Addr} {l1 l2 : List (Str × D)} {ta tb : TD} {sp : DSp}
theorem e_binO : wBinO ks C sp ta tb ρ Q = ta ρ (kBo0 ks C sp tb Q) := rfl
theorem k_bo0 : kBo0 ks C sp tb Q r ρ = tb ρ (kBo1 ks C sp Q r) := rfl
theorem k_bo1 : kBo1 ks C sp Q r r2 ρ = lk (frzs ks [r, r2] ρ) (kBo2 C sp Q) := rfl
theorem k_bo2 : kBo2 C sp Q ([.ins C l1, .ins C l2], ρ) = sp [.dat (.ins C l1), .dat (.ins C l2)] (kRetQ Q ρ) noX := propext ⟨fun h => h.2.2, fun h => ⟨rfl, rfl, h⟩⟩
end
end DL

set_option Elab.async false
set_option maxRecDepth 100000
set_option maxHeartbeats 4000000
/-! DL36: isinstance of an object of an own class, or data, of a built-in type. -/
namespace DL
open PySem PySem.Spec PyProof.Rows L2
def gIsiN (C : Addr) (T : String) : List D → Option Z
  | [.ins C' _, .ty T'] => if C' = C ∧ T' = T then some (.d (.bl false)) else none
  | ds => gIsi ds
theorem Rc.tyv {K : PySem.W.Frag} {H G : Hp} {x : V} {T : String} (r : Rc K H G x (.ty T)) : x = .ty T := by
  rcases r with r | ⟨a, h, o, _, _, _, z⟩
  · cases r; rfl
  · cases o <;> cases z
theorem b_isiN {K : PySem.W.Frag} {C : Addr} {T : String} (cl : Cls K C) (c : IsC K C) (nt : PySem.W.mroIn K C (.type T) = some false) (km : PySem.W.kitMeta T = true) : FnB K (rIsi K) (gIsiN C T) := fun H G xs ds z Q xx r hz k => by
  unfold gIsiN at hz
  split at hz
  · rename_i C' l T'
    split at hz
    · rename_i e
      obtain ⟨rfl, rfl⟩ := e
      cases hz
      obtain ⟨x, y, rfl, r1, r2⟩ := pr2 r
      obtain rfl := r2.tyv
      have kk : PySem.W.kitOne K (.ref C') (.type T') = some false := by
        unfold PySem.W.kitOne
        rw [if_neg (by simp)]
        unfold PySem.W.kitCls
        dsimp only
        rw [if_pos km]
        exact nt
      refine ⟨x, .ty T', .ref C', .type T', false, rfl, .ty T', ?_, kk, k _ H ⟨rfl, .bl _⟩⟩
      rcases r1 with r1 | ⟨a, hh, o, rfl, h1, r1, e⟩
      · cases r1 with
        | ins q r1 => exact .base (.ins (xx _ _ q) cl c.ha c.hn c.ht c.hm)
      · cases r1 with
        | lst r1 => cases e
        | dct r1 => cases e
        | ins r1 => cases e; exact .base (.ins h1 cl c.ha c.hn c.ht c.hm)
    · cases hz
  · exact b_isi H G xs _ z Q xx r hz k
end DL

set_option Elab.async false
set_option maxRecDepth 100000
set_option maxHeartbeats 4000000
/-! DL37: what an object of an own class does: x[i], x.p of a property, by the class's own defs. -/
namespace DL
open PySem PySem.Spec PyProof.Rows L2
/-- C's method of the name -/
structure OneC (K : PySem.W.Frag) (C f : Addr) (nm : Str) : Prop where
  at_ : PySem.W.findIn K (.ref C) nm = some (some (.ref f))
  fn : PySem.W.isFn K (.ref f) = true
  fi : PySem.W.fnIn K f = true
structure OneP (P : Program) (w : World) (K : PySem.W.Frag) (mg : Str → Option Value) (base : Heap) (k : Nat) (C : Addr) (nm : Str) (sp : DSp) : Prop where
  ex : ∃ (f : Addr) (fd : FuncData) (ps : List Str), OneC K C f nm ∧ FnG P w K mg base CX0 k f fd ps (toSp K sp) ∧ Binds K fd ps []
def rOwn (C : Addr) (sp : Sp) (E : XK) : R2 := fun x y H Q => isIns C x H ∧ sp [x, y] H Q E
section
variable {X : Cx} {CX : CXT} {k : Nat} {f C : Addr} {fd : FuncData} {ps : List Str} {sp : Sp} {E : XK} {a b : Expr} {ta tb : TE} {pos : Pos}
theorem pe_ixO (Cf : OneC X.K C f "__getitem__") (F : FnG X.prog X.w X.K X.mg X.base CX k f fd ps sp) (room : Room (k + 1) X.A) (grd : X.A.guards = some []) (bind : Binds X.K fd ps []) (pass : Passes CX X E) (ha : PE X a ta) (hb : PE X b tb)
    (hsl : ∀ o i, subscripted b true o i = runValue (.builtin "lifetime.subscript" ⟨[o, i], []⟩)) : PE X (.Subscript a b pos) (tOp (rOwn C sp E) ta tb) := by
  refine ⟨fun pins s σ H Q I h => ?_⟩
  refine Subscript_ (binT ha hb I h fun v u s2 x y H2 I2 rx ry q => ?_)
  obtain ⟨⟨p, dx, fs, rfl, hp⟩, q⟩ := q
  cases (show v = Value.ref p from rx)
  obtain ⟨mA, J, _⟩ := ins_get I2.hok hp
  obtain ⟨od, J, _⟩ := J.look
  obtain ⟨m, hF⟩ := I2.fr
  exact PySem.W.sub_K hF I2.ok.mod.kin J Cf.at_ Cf.fi Cf.fn (runG1 (us := [.ref p, u]) (xs := [.ref p, y]) F room grd bind pass I2 (.cons rfl (.cons ry .nil)) q) (hsl _ _)
end
section
variable {X : Cx} {CX : CXT} {k : Nat} {C p g a dx : Addr} {fs : List (Str × V)} {f : Str} {fd : FuncData} {ps : List Str} {sp : Sp} {E : XK} {e : Expr} {pos : Pos} {ta : TE}
theorem getpropG {pins : List (Addr × Obj)} {σ : L2.St} {H : Hp} {s : Shared} {Q : VK} {b : Bool} {E' : Value → Shared → Prop} (I : Inv X pins σ H s) (ea : H a = some (.ins C dx fs)) (c : Cls X.K C) (hp : PropOf X.K C f p g)
    (F : FnG X.prog X.w X.K X.mg X.base CX k g fd ps sp) (hr : Room (k + 1) X.A) (grd : X.A.guards = some []) (hb : Binds X.K fd ps []) (hx : Passes CX X.nox E) (h : sp [.ref a] H Q E) :
    wpAny (model X.prog X.w) X.A (getAttr (.ref a) f b) (EP X pins σ Q) E' s := by
  obtain ⟨mA, O, _, _, _, _⟩ := ins_get I.hok ea
  obtain ⟨od, J, _⟩ := O.look
  obtain ⟨rest, hrec⟩ := hp.rec_
  have I1 := I.tok (s.toks + 1)
  have hl : ([Value.ref a] ++ []).length = ps.length := by
    rw [← F.len _ _ _ _ h]; rfl
  have hc : (PySem.W.clsIn X.K C).isSome = true := by
    obtain ⟨cd, hc, _⟩ := PySem.W.any_some c.hd
    rw [hc]
    rfl
  refine PySem.W.get_bind I.kIn J (PySem.W.plainGet_of (c.get f)).1 (PySem.W.findObj_data hc hp.at_ hp.get hp.tak) (PySem.W.plainGet_of (c.get f)).2 (wpAny_call (PySem.W.prop_get (s := { s with toks := s.toks + 1 }) I.kIn hrec ?_))
  refine codeAny_mono (F.run X.A.in1 X.stack { s with toks := s.toks + 1 } H ⟨[.ref a], []⟩ [.ref a] [.ref a] Q E hr.in1 grd I1.env0.in1 (hb _ [.ref a] I1.kIn hl) (.cons rfl .nil) h) fun r s' hq => ?_
  cases r with
  | error er => exact False.elim (hx pins σ H { s with toks := s.toks + 1 } er s' (I1.wish _) hq)
  | ok fl =>
    cases fl with
    | ret u =>
      obtain ⟨v, H', I3, rv, q3⟩ := I1.after hq
      show wpAny _ _ (handedOut u) _ _ _
      rw [PySem.W.handedOut_of (handed_of rv)]
      exact wpAny_pure ⟨v, H', I3, rv, q3⟩
    | next => exact False.elim hq
    | brk => exact False.elim hq
    | cont => exact False.elim hq
def tPropG (C : Addr) (sp : Sp) (E : XK) (ta : TE) : TE := fun σ H Q => ta σ H fun x H1 => isIns C x H1 ∧ sp [x] H1 Q E
theorem pe_propG (he : PE X e ta) (c : Cls X.K C) (hp : PropOf X.K C f p g) (F : FnG X.prog X.w X.K X.mg X.base CX k g fd ps sp) (hr : Room (k + 1) X.A) (grd : X.A.guards = some []) (hb : Binds X.K fd ps []) (hx : Passes CX X.nox E)
    (hab : attributeBase e f X.env (eval e X.env) = eval e X.env) : PE X (.Attribute e f pos) (tPropG C sp E ta) := by
  refine ⟨fun pins s σ H Q I h => ?_⟩
  refine attr_of hab (thn (he.run pins s σ H _ I h) fun u s1 ⟨x, H1, I1, rx, ⟨a, dx, fs, ex, ea⟩, q⟩ => ?_)
  subst ex
  obtain rfl : u = Value.ref a := rx
  exact getpropG I1 ea c hp F hr grd hb hx q
end
structure PropP (P : Program) (w : World) (K : PySem.W.Frag) (mg : Str → Option Value) (base : Heap) (k : Nat) (C : Addr) (nm : Str) (sp : DSp) : Prop where
  ex : ∃ (p g : Addr) (fd : FuncData) (ps : List Str), PropOf K C nm p g ∧ FnG P w K mg base CX0 k g fd ps (toSp K sp) ∧ Binds K fd ps []
/-! ### readings -/
def kOi2 (C : Addr) (sp : DSp) (Q : R → Rho → Prop) (p : List D × Rho) : Prop := match p.1 with
  | [.ins C1 l1, d] => C1 = C ∧ sp [.dat (.ins C1 l1), .dat d] (kRetQ Q p.2) noX
  | _ => False
def kOi1 (ks : List Nat) (C : Addr) (sp : DSp) (Q : R → Rho → Prop) (r1 r2 : R) (ρ : Rho) : Prop := lk (frzs ks [r1, r2] ρ) (kOi2 C sp Q)
def kOi0 (ks : List Nat) (C : Addr) (sp : DSp) (tb : TD) (Q : R → Rho → Prop) (r1 : R) (ρ : Rho) : Prop := tb ρ (kOi1 ks C sp Q r1)
/-- x[i], by the class's own def -/
def wIxO (ks : List Nat) (C : Addr) (sp : DSp) (ta tb : TD) : TD := fun ρ Q => ta ρ (kOi0 ks C sp tb Q)
def kPr2 (C : Addr) (sp : DSp) (Q : R → Rho → Prop) (p : List D × Rho) : Prop := match p.1 with
  | [.ins C1 l1] => C1 = C ∧ sp [.dat (.ins C1 l1)] (kRetQ Q p.2) noX
  | _ => False
def kPr1 (ks : List Nat) (C : Addr) (sp : DSp) (Q : R → Rho → Prop) (r : R) (ρ : Rho) : Prop := lk (frzs ks [r] ρ) (kPr2 C sp Q)
/-- x.p, p a property -/
def wProp (ks : List Nat) (C : Addr) (sp : DSp) (ta : TD) : TD := fun ρ Q => ta ρ (kPr1 ks C sp Q)
theorem rv_two {K : PySem.W.Frag} {b : Bas} {σ : L2.St} {H H1 H2 G1 G2 : Hp} {ρ1 ρ2 : Rho} {v u : V} {r r2 : R} {G : Hp} {ρ : Rho} (m1 : Fm σ ρ H G ρ1 H1 G1) (m2 : Fm σ ρ1 H1 G1 ρ2 H2 G2) (q1 : Rv K b σ H H1 G1 ρ1 v r) (q2 : Rv K b σ H1 H2 G2 ρ2 u r2) : RvA K b σ H H2 G2 ρ2 [v, u] [r, r2] :=
  .cons (q1.stay m2) (fun a o e1 e2 j o' z1 z2 => by
    subst e1
    obtain ⟨c, h, y1, y2, _⟩ := q1
    rw [e2] at y1
    cases y1
    cases j with
    | succ j => simp at z1
    | zero =>
      simp only [List.getElem?_cons_zero, Option.some.injEq] at z1 z2
      subst z1; subst z2
      obtain ⟨c', h', x1, _, _, _, _, _, x7⟩ := q2
      cases x1
      rw [y2] at x7
      cases x7) (.cons (q2.back m1.dm) (fun _ _ _ _ j _ z1 => by simp at z1) .nil)
theorem ixO_go {K : PySem.W.Frag} {b : Bas} {ks : List Nat} {C : Addr} {sp : DSp} {E : XK} {ta tb : TD} {σ : L2.St} {H : Hp} {Q : VK} (hk : b.kp.map (·.1) = ks) (q : lift K b (wIxO ks C sp ta tb) σ H Q) : tOp (rOwn C (toSp K sp) E) (lift K b ta) (lift K b tb) σ H Q := by
  obtain ⟨G, ρ, QD, w, q, k⟩ := q
  refine ⟨G, ρ, _, w, q, fun v H1 G1 r ρ1 w1 m1 q1 z => ?_⟩
  refine ⟨G1, ρ1, _, w1, z, fun u H2 G2 r2 ρ2 w2 m2 q2 z => ?_⟩
  obtain ⟨p, e1, z⟩ := lk_get z
  obtain ⟨ds, ρ3⟩ := p
  obtain ⟨G3, w3, m3, r3, x3⟩ := Rel.frzs hk w2 (m1.trans m2) (rv_two m1 m2 q1 q2) e1
  unfold kOi2 at z
  split at z
  · rename_i C1 l1 d eds
    dsimp only at eds
    subst eds
    obtain ⟨e0, z⟩ := z
    have s1 := r3.sls (H := H2)
    have i1 : isIns C v H2 := by
      rw [← e0]
      cases r3 with
      | cons ra r3 =>
        cases ra with
        | ins h1 h2 => exact ⟨_, _, _, rfl, w3.sub _ _ h1⟩
    have ekp : kpOf 0 [v, u] [Sl.dat (.ins C1 l1), Sl.dat d] = [] := kpOf_dat [v, u] [.ins C1 l1, d] 0
    refine ⟨i1, G3, [.dat (.ins C1 l1), .dat d], _, _, w3.sub, s1, by rw [ekp]; exact List.nodup_nil, z, fun v' H' G' r' args' bk rs z' => ?_, fun _ _ _ _ _ _ _ z' => z'.elim⟩
    rw [ekp] at bk
    have kep : ∀ (c : Addr) (o : HO), H2 c = some o → H' c = some o ∧ (G3 c = none → G' c = none) := fun c o h => bk.kep c o h fun _ hp => by cases hp
    have m4 : Fm σ ρ3 H2 G3 ρ3 H' G' := Fm.on bk.ex kep bk.dm
    exact k v' H' G' r' ρ3 (w3.on bk.sub bk.ex kep) (m3.trans m4) (Rv.res w3 (fun _ o h => ⟨o, h⟩) m3.dm rs) z'
  · exact z.elim
theorem prop_go {K : PySem.W.Frag} {b : Bas} {ks : List Nat} {C : Addr} {sp : DSp} {E : XK} {ta : TD} {σ : L2.St} {H : Hp} {Q : VK} (hk : b.kp.map (·.1) = ks) (q : lift K b (wProp ks C sp ta) σ H Q) : tPropG C (toSp K sp) E (lift K b ta) σ H Q := by
  obtain ⟨G, ρ, QD, w, q, k⟩ := q
  refine ⟨G, ρ, _, w, q, fun v H2 G2 r ρ2 w2 m2 q2 z => ?_⟩
  obtain ⟨p, e1, z⟩ := lk_get z
  obtain ⟨ds, ρ3⟩ := p
  have qa : RvA K b σ H H2 G2 ρ2 [v] [r] := .cons q2 (fun _ _ _ _ j _ z1 => by simp at z1) .nil
  obtain ⟨G3, w3, m3, r3, x3⟩ := Rel.frzs hk w2 m2 qa e1
  unfold kPr2 at z
  split at z
  · rename_i C1 l1 eds
    dsimp only at eds
    subst eds
    obtain ⟨e0, z⟩ := z
    have s1 := r3.sls (H := H2)
    have i1 : isIns C v H2 := by
      rw [← e0]
      cases r3 with
      | cons ra r3 =>
        cases ra with
        | ins h1 h2 => exact ⟨_, _, _, rfl, w3.sub _ _ h1⟩
    have ekp : kpOf 0 [v] [Sl.dat (.ins C1 l1)] = [] := kpOf_dat [v] [.ins C1 l1] 0
    refine ⟨i1, G3, [.dat (.ins C1 l1)], _, _, w3.sub, s1, by rw [ekp]; exact List.nodup_nil, z, fun v' H' G' r' args' bk rs z' => ?_, fun _ _ _ _ _ _ _ z' => z'.elim⟩
    rw [ekp] at bk
    have kep : ∀ (c : Addr) (o : HO), H2 c = some o → H' c = some o ∧ (G3 c = none → G' c = none) := fun c o h => bk.kep c o h fun _ hp => by cases hp
    have m4 : Fm σ ρ3 H2 G3 ρ3 H' G' := Fm.on bk.ex kep bk.dm
    exact k v' H' G' r' ρ3 (w3.on bk.sub bk.ex kep) (m3.trans m4) (Rv.res w3 (fun _ o h => ⟨o, h⟩) m3.dm rs) z'
  · exact z.elim
section
variable {X : Cx} {b : Bas} {k : Nat} {sp : DSp} {pos : Pos} {ea eb : Expr} {ta tb : TD} {ks : List Nat} {C : Addr} {f : Str}
theorem d_ixO (hk : b.kp.map (·.1) = ks) (F : OneP X.prog X.w X.K X.mg X.base k C "__getitem__" sp) (room : Room (k + 1) X.A) (grd : X.A.guards = some []) (ha : PD X b ea ta) (hb : PD X b eb tb)
    (hsl : ∀ o i, subscripted eb true o i = runValue (.builtin "lifetime.subscript" ⟨[o, i], []⟩) := by intro _ _; with_unfolding_all rfl) : PD X b (.Subscript ea eb pos) (wIxO ks C sp ta tb) := by
  obtain ⟨f, fd, ps, M, F, bind⟩ := F.ex
  exact pe_weak (pe_ixO M F room grd bind pass0 ha hb hsl) fun _ _ _ q => ixO_go hk q
theorem d_prop (hk : b.kp.map (·.1) = ks) (c : Cls X.K C) (F : PropP X.prog X.w X.K X.mg X.base k C f sp) (room : Room (k + 1) X.A) (grd : X.A.guards = some []) (ha : PD X b ea ta) (hab : attributeBase ea f X.env (eval ea X.env) = eval ea X.env := by rfl) : PD X b (.Attribute ea f pos) (wProp ks C sp ta) := by
  obtain ⟨p, g, fd, ps, M, F, bind⟩ := F.ex
  exact pe_weak (pe_propG ha c M F room grd bind pass0 hab) fun _ _ _ q => prop_go hk q
end
section
variable {ρ : Rho} {Q : R → Rho → Prop} {r r2 : R} {ks : List Nat} {C : Addr} {l1 : List (Str × D)} {d : D} {ta tb : TD} {sp : DSp}
theorem e_ixO : wIxO ks C sp ta tb ρ Q = ta ρ (kOi0 ks C sp tb Q) := rfl
theorem k_oi0 : kOi0 ks C sp tb Q r ρ = tb ρ (kOi1 ks C sp Q r) := rfl
theorem k_oi1 : kOi1 ks C sp Q r r2 ρ = lk (frzs ks [r, r2] ρ) (kOi2 C sp Q) := rfl
theorem k_oi2 : kOi2 C sp Q ([.ins C l1, d], ρ) = sp [.dat (.ins C l1), .dat d] (kRetQ Q ρ) noX := propext ⟨fun h => h.2, fun h => ⟨rfl, h⟩⟩
theorem e_prop : wProp ks C sp ta ρ Q = ta ρ (kPr1 ks C sp Q) := rfl
theorem k_pr1 : kPr1 ks C sp Q r ρ = lk (frzs ks [r] ρ) (kPr2 C sp Q) := rfl
theorem k_pr2 : kPr2 C sp Q ([.ins C l1], ρ) = sp [.dat (.ins C l1)] (kRetQ Q ρ) noX := propext ⟨fun h => h.2, fun h => ⟨rfl, h⟩⟩
end
end DL

set_option Elab.async false
set_option maxRecDepth 100000
set_option maxHeartbeats 4000000
/-! DK: the deck of draws. -/
namespace DL
open PySem PySem.Spec PyProof.Rows L2
local macro_rules | `(tactic| walk_at "dl") => `(tactic| simp (config := {decide := false}) only [seqE_nx, seqE_rt, seqE_bk, seqE_ct, loopE_nx, loopE_rt, loopE_bk, loopE_ct, e_seq, e_next, e_break, e_cont, e_retN, e_var, q_var_d, q_var_o, e_c, con_d, con_o, con_b, conS_d, conS_o, own_l, own_d, own_i, z_d, z_n, z_t, z_w, sl_d, sl_o, frz_d, frz_o, frz_b, q_frz_d, q_frz_o, frzs_nil, frzs_cons, k_fzs, k_fz, thin_d, thin_o, thin_b, k_th, thins_nil, thins_cons, k_ths, k_ts, setR_nil, setR_cons, k_e, e_op, k_op1, k_op2, k_op3, k_op4, e_un, k_un1, k_un2, e_nil, e_cons, k_co1, k_co2, conL_nil, conL_cons, k_cl, k_cl2, e_b, k_b1, k_b2, e_tup, k_tup1, k_tup2, e_lst, k_lst1, k_lst2, e_dct0, k_ret, e_call, k_ca1, k_ca2, k_retR, e_callR, k_cr1, k_cr2, k_cr3, e_tr, k_tr1, k_tr2, k_tr3, e_bl, k_bl, e_and, k_and, e_or, k_or, e_not, k_not, e_if, k_if, e_ifS, k_ifS, e_notV, k_nv1, k_nv2, e_andV, k_av1, k_av2, e_orV, k_ov1, k_ov2, bD_bl, e_sl, k_sl1, k_sl2, k_sl3, k_sl4, e_part, k_pt1, k_pt2, e_noP, e_dget, k_ge1, k_ge1b, k_ge2, k_ge3, k_ge4, dctD_d, keyD_i, keyD_s, e_mut, q_mu0, k_mu1, k_mu2, q_mu3, k_mu4, e_put, k_pu1, k_pu2, k_pu3, k_pu4, q_pu4, k_pu5, e_aug, q_au0, k_au1, k_au2, k_au3, e_asg, k_as1, k_as2, e_par, k_pa1, k_pa2, e_unp, k_up1, k_up2, e_hName, e_hNil, e_hCons, k_hc, e_hTup, e_hWt, e_drop, k_dr, e_ret, k_rt_d, k_rt_o, k_rt_b, q_out_o, q_out_d, forL_nil, forL_cons, k_fo2, e_for, k_fo1, k_wh, e_itS, k_it1, k_it2, k_it3, walk_l, walk_f, walk_t, e_itR1, k_r11, k_r12, e_itR2, k_r21, k_r22, e_itE, k_en1, k_en2, k_en3, list_l, list_f, e_lc, k_lc, k_lcQ, compL_nil, compL_cons, k_c1, k_c2, k_c3, k_c4, e_yes, wip_nil, wip_cons, unw_nil, unw_cons, g_int, f_add, f_sub, f_mul, f_div, f_mod, f_pow, f_lt, f_le, f_gt, f_ge, add_i, add_s, add_l, add_t, mul_i, mul_l, mul_t, neg_i, ix_l, ix_t, sl_l, sl_f, sl_t, len_l, len_f, len_t, len_s, abs_i, int_i, lof_l, lof_f, lof_t, tof_l, tof_f, tof_t, dof_t, app_l, ext_t, ext_l, tru_b, tru_i, tru_l, tru_t, tru_n, augN, subN, is_bl, is_non, ixN4_0, ixN4_1, ixN4_2, ixN4_3, lk_some, lk_ite, lk_map, lk_bind, ixOf, endsF_nx, endsF_dat, endsF_own, atI_0, atI_1, atI_2, atI_3, eqA_l0, eqA_tup0, eqA_int, eqA_non, bne_f, bne_t, sizeLine_eq,
  List.cons_append, List.nil_append, List.getElem?_cons_zero, List.getElem?_cons_succ, List.set_cons_zero, List.set_cons_succ, List.length_cons, List.length_nil, List.replicate, List.take_succ_cons, List.take_zero, List.not_mem_nil, List.mem_cons, List.map_cons, List.map_nil, if_false, if_true, Option.map_some, Option.bind_some, Option.getD_some, Nat.reduceAdd, Nat.reduceSub, Nat.reduceLeDiff, Nat.reduceEqDiff, Nat.succ_ne_zero, Nat.zero_ne_one, Nat.one_ne_zero, List.isEmpty_nil, List.isEmpty_cons, List.length_map, List.isEmpty_map, beq_iff_eq, Bool.not_eq_true, reduceCtorEq, or_false, or_true, false_or, true_or, and_true, true_and, List.cons.injEq, Option.some.injEq, Sl.own.injEq, Own.lst.injEq, exists_eq', not_false_eq_true, forall_const, forall_eq, forall_eq_or_imp, decide_eq_true_eq, Bool.not_true, Bool.not_false, Bool.false_eq_true, ite_self])
def rd__law_mixed (ks : List Nat) : SD :=
  (wSeq (wAsg ks 2 (wC (.int 2305843009213693951)))
  (wSeq (wAsg ks 3 (wOp (gInt fMod) (wOp gAdd (wOp gAdd (wOp gMul (wVar 0) (wC (.int 1181783497276652981))) (wOp gMul (wVar 1) (wC (.int 2685821657736338717)))) (wC (.int 41))) (wVar 2)))
  (wSeq (wFor (wItR1 (wCons (wC (.int 4)) wNil)) (hName ks 4) (wAsg ks 3 (wOp (gInt fMod) (wOp gAdd (wOp gAdd (wOp gAdd (wOp gMul (wVar 3) (wVar 3)) (wOp gMul (wC (.int 29)) (wVar 3))) (wOp gMul (wC (.int 4001)) (wVar 4))) (wVar 1)) (wVar 2))))
  (wRet ks (wOp gAdd (wOp gMul (wVar 3) (wVar 2)) (wOp (gInt fMod) (wOp gAdd (wOp gMul (wVar 3) (wC (.int 48271))) (wVar 1)) (wVar 2)))))))
def sp__law_mixed : DSp := fun args Q _ => ∃ number lap : Int, args = [.dat (.int number), .dat (.int lap)] ∧ 0 ≤ number ∧ number < 2 ^ 64 ∧ 0 ≤ lap ∧ lap < 2 ^ 64 ∧ ∀ r : Int, 0 ≤ r → Q (.dat (.int r)) [.dat (.int number), .dat (.int lap)]
theorem nat_lt {i : Int} {n : Nat} (h0 : 0 ≤ i) (h : i < 2 ^ n) : i.natAbs < 2 ^ n := by
  have : ((i.natAbs : Nat) : Int) < ((2 ^ n : Nat) : Int) := by
    rw [Int.natAbs_of_nonneg h0]; push_cast; exact h
  exact Int.ofNat_lt.mp this
theorem mulB {i j : Int} (a b : Nat) (h0 : 0 ≤ i) (hi : i < 2 ^ a) (k0 : 0 ≤ j) (hj : j < 2 ^ b) (h1 : 0 < a) (h2 : 0 < b) (h : a + b < 1000000) : i.natAbs.log2 + j.natAbs.log2 < 1000000 := mul_ok a b (nat_lt h0 hi) (nat_lt k0 hj) h1 h2 h
theorem mixed_loop {n l : Int} (l0 : 0 ≤ l) (DD : EndsD) (hD : ∀ (found : Int) (s4 : Sl), 0 ≤ found → found < 2 ^ 61 → DD.nx [.dat (.int n), .dat (.int l), .dat (.int 2305843009213693951), .dat (.int found), s4]) : ∀ (ds : List D) (found : Int) (s4 : Sl), (∀ d ∈ ds, ∃ i : Int, d = .int i ∧ 0 ≤ i ∧ i < 4) → 0 ≤ found → found < 2 ^ 61 →
    forL (hName [] 4) (wAsg [] 3 (wOp (gInt fMod) (wOp gAdd (wOp gAdd (wOp gAdd (wOp gMul (wVar 3) (wVar 3)) (wOp gMul (wC (.int 29)) (wVar 3))) (wOp gMul (wC (.int 4001)) (wVar 4))) (wVar 1)) (wVar 2))) DD ds [.dat (.int n), .dat (.int l), .dat (.int 2305843009213693951), .dat (.int found), s4]
  | [], found, s4, _, h0, h1 => hD found s4 h0 h1
  | d :: ds, found, s4, hd, h0, h1 => by
    obtain ⟨i, rfl, i0, i1⟩ := hd d List.mem_cons_self
    unfold forL
    walk_at "dl"
    refine ⟨mulB 61 61 h0 h1 h0 h1 (by decide) (by decide) (by decide), mulB 61 61 (by decide) (by decide) h0 h1 (by decide) (by decide) (by decide), mulB 61 61 (by decide) (by decide) i0 (by omega) (by decide) (by decide) (by decide), by decide, ?_⟩
    exact mixed_loop l0 DD hD ds _ _ (fun d h => hd d (List.mem_cons_of_mem _ h)) (Int.emod_nonneg _ (by decide)) (Int.lt_trans (Int.emod_lt_of_pos _ (by decide)) (by decide))
theorem pl__law_mixed : PL 5 2 rd__law_mixed sp__law_mixed := fun args QD ED h => by
  obtain ⟨n, l, rfl, n0, n1, l0, l1, h⟩ := h
  refine ⟨rfl, ?_⟩
  unfold rd__law_mixed
  walk_at "dl"
  refine ⟨mulB 64 64 n0 n1 (by decide) (by decide) (by decide) (by decide) (by decide), mulB 64 64 l0 l1 (by decide) (by decide) (by decide) (by decide) (by decide), by decide, by decide, by decide, ?_⟩
  refine mixed_loop l0 _ (fun found s4 h0 h1 => ?_) _ _ _ (fun d hd => ?_) (Int.emod_nonneg _ (by decide)) (Int.lt_trans (Int.emod_lt_of_pos _ (by decide)) (by decide))
  · walk_at "dl"
    refine ⟨mulB 61 64 h0 h1 (by decide) (by decide) (by decide) (by decide) (by decide), mulB 61 64 h0 h1 (by decide) (by decide) (by decide) (by decide) (by decide), by decide, h _ ?_⟩
    have a1 : 0 ≤ found * 2305843009213693951 := Int.mul_nonneg h0 (by decide)
    have a2 : 0 ≤ (found * 48271 + l) % 2305843009213693951 := Int.emod_nonneg _ (by decide)
    omega
  · obtain ⟨j, hj, rfl⟩ := List.mem_map.mp hd
    have := List.mem_range.mp hj
    exact ⟨_, rfl, by omega, by omega⟩

/-! ### the deck: n more draws are let by -/
structure Dk (n : Nat) (o : Own) : Prop where
  ex : ∃ (cells : List Int) (place amount left : Int), o = .lst [.lst (cells.map .int), .int place, .int amount, .int left] ∧ cells.length ≤ 63 ∧ (∀ c ∈ cells, 0 ≤ c) ∧ 0 ≤ place ∧ place + (n : Int) < 2 ^ 63 ∧ 0 ≤ amount ∧ 0 ≤ left
theorem Dk.mono {n m : Nat} {o : Own} (h : Dk n o) (e : m ≤ n) : Dk m o := by
  obtain ⟨c, p, a, l, h1, h2, h3, h4, h5, h6⟩ := h.ex
  exact ⟨c, p, a, l, h1, h2, h3, h4, by omega, h6⟩
def sp__law_below : DSp := fun args Q _ => ∃ (n : Nat) (o : Own) (bound : Int), args = [.own o, .dat (.int bound)] ∧ Dk (n + 1) o ∧ 0 < bound ∧ bound < 2 ^ 64 ∧ ∀ (r : Int) (o' : Own), 0 ≤ r → r < bound → Dk n o' → Q (.dat (.int r)) [.own o', .dat (.int bound)]
def rd__law_below (ks : List Nat) (sp__law_mixed : DSp) : SD :=
  (wSeq (wIfS (wBl (wOp (gInt fLt) (wOp gIx (wVar 0) (wC (.int 3))) (wVar 1))) (wSeq (wPar ks [2, 3] (wCons (wOp gIx (wVar 0) (wC (.int 0))) (wCons (wOp gIx (wVar 0) (wC (.int 1))) wNil)))
  (wSeq (wAsg ks 4 (wIf (wBl (wOp (gEqA true) (wVar 2) (wLst ks wNil))) (wOp gIx (wVar 2) (wOp (gInt fMod) (wVar 3) (wB gLen (wCons (wVar 2) wNil)))) (wC (.int 0))))
  (wSeq (wIfS (wOr (wBl (wOp (gInt fGe) (wVar 3) (wB gLen (wCons (wVar 2) wNil)))) (wBl (wOp (gInt fLt) (wVar 4) (wOp (gInt fPow) (wC (.int 10)) (wC (.int 16)))))) (wAsg ks 4 (wCall ks sp__law_mixed (wCons (wOp (gInt fMod) (wB gIntOf (wCons (wVar 4) wNil)) (wC (.int 998244353))) (wCons (wVar 3) wNil)))) wNext)
  (wSeq (wPut ks 0 (wC (.int 1)) (wOp gAdd (wVar 3) (wC (.int 1))))
  (wSeq (wPut ks 0 (wC (.int 2)) (wVar 4))
  (wPut ks 0 (wC (.int 3)) (wVar 4))))))) wNext)
  (wSeq (wAsg ks 5 (wOp (gInt fMod) (wB gIntOf (wCons (wOp gIx (wVar 0) (wC (.int 2))) wNil)) (wVar 1)))
  (wSeq (wPut ks 0 (wC (.int 2)) (wOp (gInt fDiv) (wOp gIx (wVar 0) (wC (.int 2))) (wVar 1)))
  (wSeq (wPut ks 0 (wC (.int 3)) (wOp (gInt fDiv) (wOp gIx (wVar 0) (wC (.int 3))) (wVar 1)))
  (wRet ks (wVar 5))))))
theorem div_nn {a b : Int} (h0 : 0 ≤ a) (hb : 0 < b) : 0 ≤ a / b := Int.ediv_nonneg h0 (Int.le_of_lt hb)
theorem bnd_ok {b : Int} (h0 : 0 < b) (h : b < 2 ^ 64) : b.natAbs.log2 < 9000 := by
  have := log2_of (nat_lt (Int.le_of_lt h0) h) (by decide)
  omega
theorem pl__law_below : PL 6 2 (fun ks => rd__law_below ks sp__law_mixed) sp__law_below := fun args QD ED h => by
  obtain ⟨n, o, bound, rfl, hd, b0, b1, h⟩ := h
  obtain ⟨cells, place, amount, left, rfl, c0, c1, p0, p1, a0, l0⟩ := hd.ex
  refine ⟨rfl, ?_⟩
  have hb := bnd_ok b0 b1
  have fin : ∀ (am : Int) (s2 s3 s4 s5 : Sl), 0 ≤ am → QD (.dat (.int (am % bound))) [.own (.lst [.lst (cells.map .int), .int (place + 1), .int (am / bound), .int (am / bound)]), .dat (.int bound)] := fun am s2 s3 s4 s5 h0 =>
    h _ _ (Int.emod_nonneg _ (by omega)) (Int.emod_lt_of_pos _ b0) ⟨⟨cells, place + 1, am / bound, am / bound, rfl, c0, c1, by omega, by omega, div_nn h0 b0, div_nn h0 b0⟩⟩
  unfold rd__law_below
  walk_at "dl"
  split
  · -- a new amount
    split
    · rename_i hc
      have hl : 0 < (cells.length : Int) := by
        cases cells with
        | nil => exact absurd hc (by simp)
        | cons x xs => rw [List.length_cons]; omega
      refine ⟨hl, ?_⟩
      obtain ⟨v, hv, ev⟩ := atI_map (f := D.int) (Int.emod_nonneg place (by omega)) (Int.emod_lt_of_pos place hl)
      have v0 := c1 v hv
      rw [lk_eq ev]
      walk_at "dl"
      split
      · refine ⟨by decide, _, _, rfl, Int.emod_nonneg _ (by decide), Int.lt_trans (Int.emod_lt_of_pos _ (by decide)) (by decide), p0, by omega, fun r hr => ?_⟩
        walk_at "dl"
        exact ⟨b0, ⟨b0, hb⟩, ⟨b0, hb⟩, fin r .no .no .no .no hr⟩
      · refine ⟨⟨by decide, by decide, by decide⟩, ?_⟩
        split
        · refine ⟨by decide, _, _, rfl, Int.emod_nonneg _ (by decide), Int.lt_trans (Int.emod_lt_of_pos _ (by decide)) (by decide), p0, by omega, fun r hr => ?_⟩
          walk_at "dl"
          exact ⟨b0, ⟨b0, hb⟩, ⟨b0, hb⟩, fin r .no .no .no .no hr⟩
        · exact ⟨b0, ⟨b0, hb⟩, ⟨b0, hb⟩, fin v .no .no .no .no v0⟩
    · split
      · refine ⟨by decide, _, _, rfl, Int.emod_nonneg _ (by decide), Int.lt_trans (Int.emod_lt_of_pos _ (by decide)) (by decide), p0, by omega, fun r hr => ?_⟩
        walk_at "dl"
        exact ⟨b0, ⟨b0, hb⟩, ⟨b0, hb⟩, fin r .no .no .no .no hr⟩
      · refine ⟨⟨by decide, by decide, by decide⟩, ?_⟩
        split
        · refine ⟨by decide, _, _, rfl, Int.emod_nonneg _ (by decide), Int.lt_trans (Int.emod_lt_of_pos _ (by decide)) (by decide), p0, by omega, fun r hr => ?_⟩
          walk_at "dl"
          exact ⟨b0, ⟨b0, hb⟩, ⟨b0, hb⟩, fin r .no .no .no .no hr⟩
        · exact ⟨b0, ⟨b0, hb⟩, ⟨b0, hb⟩, fin 0 .no .no .no .no (Int.le_refl 0)⟩
  · refine ⟨b0, ⟨b0, hb⟩, ⟨b0, hb⟩, ?_⟩
    exact h _ _ (Int.emod_nonneg _ (by omega)) (Int.emod_lt_of_pos _ b0) ⟨⟨cells, place, amount / bound, left / bound, rfl, c0, c1, by omega, by omega, div_nn a0 b0, div_nn l0 b0⟩⟩

/-! ### pick: one of a list's items -/
def listOf : Own → Option (List D)
  | .lst l => some l
  | _ => none
def sp__law_pick : DSp := fun args Q _ => ∃ (n : Nat) (o : Own) (l : List D), args = [.own o, .dat (.lst l)] ∧ Dk (n + 1) o ∧ l ≠ [] ∧ l.length < 1000 ∧ ∀ (x : D) (o' : Own), x ∈ l → Dk n o' → Q (.dat x) [.own o', .dat (.lst l)]
def rd__law_pick (ks : List Nat) (sp__law_below : DSp) : SD :=
  (wRet ks (wOp gIx (wVar 1) (wCallR ks sp__law_below (wCons (wVar 0) (wCons (wB gLen (wCons (wVar 1) wNil)) wNil)))))
theorem pl__law_pick : PL 2 2 (fun ks => rd__law_pick ks sp__law_below) sp__law_pick := fun args QD ED h => by
  obtain ⟨n, o, l, rfl, hd, hl, hz, h⟩ := h
  refine ⟨rfl, ?_⟩
  unfold rd__law_pick
  walk_at "dl"
  have l0 : 0 < l.length := List.length_pos_iff.mpr hl
  refine ⟨n, o, l.length, rfl, hd, by omega, by omega, fun r o' h0 h1 hd' => ?_⟩
  walk_at "dl"
  obtain ⟨x, hx, e, _⟩ := atI_mem h0 h1
  rw [lk_eq e]
  exact h x o' hx hd'

/-! ### the deck of a script -/
def rd__law_deck_of (ks : List Nat) : SD :=
  (wSeq (wAsg ks 2 (wLc ks (wItS ks (wSl gSl (wVar 0) wNoP (wPart (wC (.int 16))))) (hName ks 1) wYes (wB gAbs (wCons (wVar 1) wNil)) [1]))
  (wSeq (wFor (wItE ks (wCons (wSl gSl (wVar 0) (wPart (wC (.int 16))) (wPart (wC (.int 63)))) wNil)) (hTup 2 (hCons (hName ks 3) (hCons (hName ks 1) hNil))) (wPut ks 2 (wOp (gInt fMod) (wVar 3) (wC (.int 16))) (wOp gAdd (wOp gIx (wVar 2) (wOp (gInt fMod) (wVar 3) (wC (.int 16)))) (wB gAbs (wCons (wVar 1) wNil)))))
  (wRet ks (wLst ks (wCons (wVar 2) (wCons (wC (.int 0)) (wCons (wC (.int 0)) (wCons (wC (.int 0)) wNil))))))))
def sp__law_deck_of : DSp := fun args Q _ => ∃ (l : List Int), args = [.dat (.fzl (l.map .int))] ∧ l.length ≤ 63 ∧ ∀ (o : Own), Dk 1000000000000 o → Q (.own o) [.dat (.fzl (l.map .int))]
def absI (i : Int) : Int := if i < 0 then -i else i
theorem absI_nn (i : Int) : 0 ≤ absI i := by unfold absI; split <;> omega
theorem deck_comp {s0 : Sl} {Q : List D → Rho → Prop} : ∀ (xs acc : List Int), acc.length + xs.length ≤ 63 → Q ((acc ++ xs.map absI).map .int) [s0, .no, .no, .no] →
    compL [] (hName [] 1) wYes (wB gAbs (wCons (wVar 1) wNil)) [1] (xs.map .int) (acc.map .int) [s0, .no, .no, .no] Q
  | [], acc, _, q => by
    rw [List.map_nil, List.append_nil] at q
    exact q
  | x :: xs, acc, h, q => by
    rw [List.length_cons] at h
    rw [List.map_cons]
    walk_at "dl"
    refine ⟨by omega, ?_⟩
    have e : acc.map D.int ++ [D.int (if x < 0 then -x else x)] = (acc ++ [absI x]).map D.int := by rw [List.map_append]; rfl
    rw [e]
    refine deck_comp xs (acc ++ [absI x]) (by rw [List.length_append, List.length_singleton]; omega) ?_
    rw [List.map_cons] at q
    rw [List.append_assoc]
    exact q
theorem deck_loop {s0 : Sl} {DD : EndsD} (hD : ∀ (cells : List Int) (s1 s3 : Sl), cells.length ≤ 16 → (∀ c ∈ cells, 0 ≤ c) → DD.nx [s0, s1, .own (.lst (cells.map .int)), s3]) : ∀ (ys : List Int) (n : Nat) (cells : List Int) (s1 s3 : Sl), cells.length ≤ 16 → (ys ≠ [] → cells.length = 16) → (∀ c ∈ cells, 0 ≤ c) →
    forL (hTup 2 (hCons (hName [] 3) (hCons (hName [] 1) hNil))) (wPut [] 2 (wOp (gInt fMod) (wVar 3) (wC (.int 16))) (wOp gAdd (wOp gIx (wVar 2) (wOp (gInt fMod) (wVar 3) (wC (.int 16)))) (wB gAbs (wCons (wVar 1) wNil)))) DD (enumD n (ys.map .int)) [s0, s1, .own (.lst (cells.map .int)), s3]
  | [], n, cells, s1, s3, h1, h2, h3 => hD cells s1 s3 h1 h3
  | y :: ys, n, cells, s1, s3, h1, h2, h3 => by
    have hc := h2 (by simp)
    show forL _ _ DD (.wt [.int (n : Nat), .int y] :: enumD (n + 1) (ys.map .int)) _
    walk_at "dl"
    have e0 : 0 ≤ (n : Int) % 16 := Int.emod_nonneg _ (by decide)
    have e1 : (n : Int) % 16 < 16 := Int.emod_lt_of_pos _ (by decide)
    refine ⟨by decide, ?_⟩
    obtain ⟨v, hv, ev⟩ := atI_map (f := D.int) (l := cells) e0 (by rw [hc]; exact e1)
    rw [lk_eq ev]
    walk_at "dl"
    refine ⟨by decide, ?_⟩
    rw [lk_eq (ixN_int (n := cells.length) e0 (by rw [hc]; exact e1))]
    walk_at "dl"
    have e2 : (cells.map D.int).set ((n : Int) % 16).toNat (D.int (v + if y < 0 then -y else y)) = (cells.set ((n : Int) % 16).toNat (v + absI y)).map D.int := by rw [List.map_set]; rfl
    rw [e2]
    refine deck_loop hD ys (n + 1) _ _ _ (by rw [List.length_set]; exact h1) (fun _ => by rw [List.length_set]; exact hc) fun c hcm => ?_
    rcases List.mem_or_eq_of_mem_set hcm with h | h
    · exact h3 c h
    · have := h3 v hv
      have := absI_nn y
      omega
theorem pl__law_deck_of : PL 4 1 rd__law_deck_of sp__law_deck_of := fun args QD ED h => by
  obtain ⟨l, rfl, hl, h⟩ := h
  refine ⟨rfl, ?_⟩
  unfold rd__law_deck_of
  walk_at "dl"
  have e1 : cutD (l.map D.int) none (some 16) = (l.take 16).map D.int := by rw [List.map_take]; exact cutD_to 16
  rw [e1]
  refine ⟨fun o e => (by cases e), deck_comp (l.take 16) [] (by rw [List.length_take, List.length_nil]; omega) ?_⟩
  walk_at "dl"
  have e2 : cutD (l.map D.int) (some 16) (some 63) = ((l.drop 16).take 47).map D.int := by rw [List.map_take, List.map_drop]; exact cutD_mid 16 63
  rw [e2]
  refine deck_loop (fun cells s1 s3 c1 c2 => ?_) _ 0 _ _ _ (by rw [List.length_map, List.length_take]; omega) (fun h => ?_) (fun c hc => ?_)
  · walk_at "dl"
    exact h _ ⟨⟨cells, 0, 0, 0, rfl, by omega, c2, by decide, by decide, by decide, by decide⟩⟩
  · have : 16 ≤ l.length := by
      refine Nat.le_of_lt (Nat.lt_of_not_le fun hle => h ?_)
      rw [List.drop_of_length_le hle]; rfl
    rw [List.length_map, List.length_take]; omega
  · obtain ⟨x, _, rfl⟩ := List.mem_map.mp hc
    exact absI_nn x
end DL

set_option Elab.async false
set_option maxRecDepth 100000
set_option maxHeartbeats 4000000
/-! DT: drawn kinds and trees. -/
namespace DL
open PySem PySem.Spec PyProof.Rows L2
local macro_rules | `(tactic| walk_at "dl") => `(tactic| simp (config := {decide := false}) only [seqE_nx, seqE_rt, seqE_bk, seqE_ct, loopE_nx, loopE_rt, loopE_bk, loopE_ct, e_seq, e_next, e_break, e_cont, e_retN, e_var, q_var_d, q_var_o, e_c, con_d, con_o, con_b, conS_d, conS_o, own_l, own_d, own_i, z_d, z_n, z_t, z_w, sl_d, sl_o, frz_d, frz_o, frz_b, q_frz_d, q_frz_o, frzs_nil, frzs_cons, k_fzs, k_fz, thin_d, thin_o, thin_b, k_th, thins_nil, thins_cons, k_ths, k_ts, setR_nil, setR_cons, k_e, e_op, k_op1, k_op2, k_op3, k_op4, e_un, k_un1, k_un2, e_nil, e_cons, k_co1, k_co2, conL_nil, conL_cons, k_cl, k_cl2, e_b, k_b1, k_b2, e_tup, k_tup1, k_tup2, e_lst, k_lst1, k_lst2, e_dct0, k_ret, e_call, k_ca1, k_ca2, k_retR, e_callR, k_cr1, k_cr2, k_cr3, e_tr, k_tr1, k_tr2, k_tr3, e_bl, k_bl, e_and, k_and, e_or, k_or, e_not, k_not, e_if, k_if, e_ifS, k_ifS, e_notV, k_nv1, k_nv2, e_andV, k_av1, k_av2, e_orV, k_ov1, k_ov2, bD_bl, e_sl, k_sl1, k_sl2, k_sl3, k_sl4, e_part, k_pt1, k_pt2, e_noP, e_dget, k_ge1, k_ge1b, k_ge2, k_ge3, k_ge4, dctD_d, keyD_i, keyD_s, e_mut, q_mu0, k_mu1, k_mu2, q_mu3, k_mu4, e_put, k_pu1, k_pu2, k_pu3, k_pu4, q_pu4, k_pu5, e_aug, q_au0, k_au1, k_au2, k_au3, e_asg, k_as1, k_as2, e_par, k_pa1, k_pa2, e_unp, k_up1, k_up2, e_hName, e_hNil, e_hCons, k_hc, e_hTup, e_hWt, e_drop, k_dr, e_ret, k_rt_d, k_rt_o, k_rt_b, q_out_o, q_out_d, forL_nil, forL_cons, k_fo2, e_for, k_fo1, k_wh, e_itS, k_it1, k_it2, k_it3, walk_l, walk_f, walk_t, e_itR1, k_r11, k_r12, e_itR2, k_r21, k_r22, e_itE, k_en1, k_en2, k_en3, list_l, list_f, e_lc, k_lc, k_lcQ, compL_nil, compL_cons, k_c1, k_c2, k_c3, k_c4, e_yes, wip_nil, wip_cons, unw_nil, unw_cons, g_int, f_add, f_sub, f_mul, f_div, f_mod, f_pow, f_lt, f_le, f_gt, f_ge, add_i, add_s, add_l, add_t, mul_i, mul_l, mul_t, neg_i, ix_l, ix_t, sl_l, sl_f, sl_t, len_l, len_f, len_t, len_s, abs_i, int_i, lof_l, lof_f, lof_t, tof_l, tof_f, tof_t, dof_t, app_l, ext_t, ext_l, tru_b, tru_i, tru_l, tru_t, tru_n, augN, subN, is_bl, is_non, ixN4_0, ixN4_1, ixN4_2, ixN4_3, lk_some, lk_ite, lk_map, lk_bind, ixOf, endsF_nx, endsF_dat, endsF_own, atI_0, atI_1, atI_2, atI_3, eqA_l0, eqA_tup0, eqA_int, eqA_non, bne_f, bne_t, sizeLine_eq,
  List.cons_append, List.nil_append, List.getElem?_cons_zero, List.getElem?_cons_succ, List.set_cons_zero, List.set_cons_succ, List.length_cons, List.length_nil, List.replicate, List.take_succ_cons, List.take_zero, List.not_mem_nil, List.mem_cons, List.map_cons, List.map_nil, if_false, if_true, Option.map_some, Option.bind_some, Option.getD_some, Nat.reduceAdd, Nat.reduceSub, Nat.reduceLeDiff, Nat.reduceEqDiff, Nat.succ_ne_zero, Nat.zero_ne_one, Nat.one_ne_zero, List.isEmpty_nil, List.isEmpty_cons, List.length_map, List.isEmpty_map, beq_iff_eq, Bool.not_eq_true, reduceCtorEq, or_false, or_true, false_or, true_or, and_true, true_and, List.cons.injEq, Option.some.injEq, Sl.own.injEq, Own.lst.injEq, exists_eq', not_false_eq_true, forall_const, forall_eq, forall_eq_or_imp, decide_eq_true_eq, Bool.not_true, Bool.not_false, Bool.false_eq_true, ite_self])
def rd__law_some_kind (ks : List Nat) (sp__law_below : DSp) (sp__law_pick : DSp) : SD :=
  (wSeq (wAsg ks 2 (wLst ks (wCons (wC (.int 0)) (wCons (wCallR ks sp__law_pick (wCons (wVar 0) (wCons (wLst ks (wCons (wC (.int 2)) (wCons (wC (.int 2)) (wCons (wC (.int 2)) (wCons (wC (.int 3)) (wCons (wC (.int 4)) wNil)))))) wNil))) wNil))))
  (wSeq (wFor (wItR1 (wCons (wCallR ks sp__law_below (wCons (wVar 0) (wCons (wOp (gInt fSub) (wVar 1) (wC (.int 1))) wNil))) wNil)) (hName ks 3) (wDrop (wMut ks 2 gAppend (wCons (wCallR ks sp__law_pick (wCons (wVar 0) (wCons (wLst ks (wCons (wC (.int 0)) (wCons (wC (.int 0)) (wCons (wC (.int 1)) (wCons (wC (.int 1)) (wCons (wC (.int 2)) (wCons (wC (.int 3)) (wCons (wC (.int 4)) wNil)))))))) wNil))) wNil))))
  (wSeq (wPar ks [4, 5] (wCons (wLst ks (wCons (wC (.str "leaf")) (wCons (wC (.str "join")) (wCons (wC (.str "a")) (wCons (wC (.str "z9")) (wCons (wC (.str "node")) (wCons (wC (.str "b2b")) (wCons (wC (.str "tip")) (wCons (wC (.str "eightabc")) wNil))))))))) (wCons (wLst ks wNil) wNil)))
  (wSeq (wWhile (wBl (wOp (gEqA true) (wVar 2) (wLst ks wNil))) (wSeq (wAsg ks 6 (wMut ks 4 gPopAt (wCons (wCallR ks sp__law_below (wCons (wVar 0) (wCons (wB gLen (wCons (wVar 4) wNil)) wNil))) wNil)))
  (wDrop (wMut ks 5 gAppend (wCons (wTup ks (wCons (wVar 6) (wCons (wMut ks 2 gPopAt (wCons (wCallR ks sp__law_below (wCons (wVar 0) (wCons (wB gLen (wCons (wVar 2) wNil)) wNil))) wNil)) wNil))) wNil)))))
  (wRet ks (wB gTupOf (wCons (wVar 5) wNil)))))))
abbrev Kind := List (Str × Int)
def pairD (p : Str × Int) : D := .tup [.str p.1, .int p.2]
def kindD (k : Kind) : D := .tup (k.map pairD)
def tagNames : List Str := ["leaf", "join", "a", "z9", "node", "b2b", "tip", "eightabc"]
structure KindOk (k : Kind) : Prop where
  nd : (k.map (·.1)).Nodup
  leaf : ∃ t, (t, 0) ∈ k
  node : ∃ t p, (t, p) ∈ k ∧ 0 < p
  rng : ∀ q ∈ k, 0 ≤ q.2 ∧ q.2 ≤ 4 ∧ q.1 ∈ tagNames
  len : k.length ≤ 8
def sp__law_some_kind : DSp := fun args Q _ => ∃ (n : Nat) (o : Own) (most : Int), args = [.own o, .dat (.int most)] ∧ Dk (n + 100) o ∧ 2 ≤ most ∧ most ≤ 8 ∧ ∀ (k : Kind) (o' : Own), KindOk k → Dk n o' → Q (.dat (kindD k)) [.own o', .dat (.int most)]
abbrev skBody1 (ks : List Nat) (sp__law_pick : DSp) : SD := (wDrop (wMut ks 2 gAppend (wCons (wCallR ks sp__law_pick (wCons (wVar 0) (wCons (wLst ks (wCons (wC (.int 0)) (wCons (wC (.int 0)) (wCons (wC (.int 1)) (wCons (wC (.int 1)) (wCons (wC (.int 2)) (wCons (wC (.int 3)) (wCons (wC (.int 4)) wNil)))))))) wNil))) wNil)))
abbrev skBody2 (ks : List Nat) (sp__law_below : DSp) : SD := (wSeq (wAsg ks 6 (wMut ks 4 gPopAt (wCons (wCallR ks sp__law_below (wCons (wVar 0) (wCons (wB gLen (wCons (wVar 4) wNil)) wNil))) wNil)))
  (wDrop (wMut ks 5 gAppend (wCons (wTup ks (wCons (wVar 6) (wCons (wMut ks 2 gPopAt (wCons (wCallR ks sp__law_below (wCons (wVar 0) (wCons (wB gLen (wCons (wVar 2) wNil)) wNil))) wNil)) wNil))) wNil))))
structure PartsOk (ps : List Int) : Prop where
  zero : 0 ∈ ps
  pos : ∃ p ∈ ps, 0 < p
  rng : ∀ p ∈ ps, 0 ≤ p ∧ p ≤ 4
theorem sk_loop1 {most : Int} {n : Nat} {DD : EndsD} (hD : ∀ (o : Own) (ps : List Int) (s3 : Sl), Dk n o → PartsOk ps → ps.length ≤ 8 → DD.nx [.own o, .dat (.int most), .own (.lst (ps.map .int)), s3, .no, .no, .no]) : ∀ (ds : List D) (o : Own) (ps : List Int) (s3 : Sl), Dk (n + ds.length) o → PartsOk ps → ps.length + ds.length ≤ 8 →
    forL (hName [0] 3) (skBody1 [0] sp__law_pick) DD ds [.own o, .dat (.int most), .own (.lst (ps.map .int)), s3, .no, .no, .no]
  | [], o, ps, s3, hd, hp, hl => hD o ps s3 hd hp hl
  | d :: ds, o, ps, s3, hd, hp, hl => by
    rw [List.length_cons] at hl hd
    walk_at "dl"
    refine ⟨n + ds.length, o, _, rfl, hd, by simp, by decide, fun x o1 hx hd1 => ?_⟩
    obtain ⟨p, rfl, hp0⟩ : ∃ p : Int, x = .int p ∧ 0 ≤ p ∧ p ≤ 4 := by
      simp only [List.mem_cons, List.not_mem_nil, or_false] at hx
      rcases hx with rfl | rfl | rfl | rfl | rfl | rfl | rfl <;> exact ⟨_, rfl, by decide⟩
    walk_at "dl"
    refine ⟨by omega, ?_⟩
    have e : ps.map D.int ++ [D.int p] = (ps ++ [p]).map D.int := by rw [List.map_append]; rfl
    rw [e]
    refine sk_loop1 hD ds o1 (ps ++ [p]) _ hd1 ⟨List.mem_append_left _ hp.zero, ?_, fun q hq => ?_⟩ (by rw [List.length_append, List.length_singleton]; omega)
    · obtain ⟨q, h1, h2⟩ := hp.pos
      exact ⟨q, List.mem_append_left _ h1, h2⟩
    · rcases List.mem_append.mp hq with h | h
      · exact hp.rng q h
      · cases List.mem_singleton.mp h; exact hp0
structure SkInv (ps : List Int) (ts : List Str) (fs : Kind) : Prop where
  nd : (ts ++ fs.map (·.1)).Nodup
  tags : ∀ t ∈ ts, t ∈ tagNames
  zero : 0 ∈ ps ∨ ∃ t, (t, 0) ∈ fs
  pos : (∃ p ∈ ps, 0 < p) ∨ ∃ t p, (t, p) ∈ fs ∧ 0 < p
  rng : ∀ p ∈ ps, 0 ≤ p ∧ p ≤ 4
  frng : ∀ q ∈ fs, 0 ≤ q.2 ∧ q.2 ≤ 4 ∧ q.1 ∈ tagNames
  len : ps.length + fs.length ≤ 8
theorem erase_perm {α : Type} : ∀ {l : List α} {i : Nat} {x : α}, l[i]? = some x → (x :: l.eraseIdx i).Perm l
  | [], i, x, h => by simp at h
  | y :: l, 0, x, h => by
    cases h
    exact List.Perm.refl _
  | y :: l, i + 1, x, h => by
    rw [List.eraseIdx_cons_succ]
    exact (List.Perm.swap y x _).trans (List.Perm.cons y (erase_perm (by simpa using h)))
theorem erase_mem {α : Type} {l : List α} {i : Nat} {x y : α} (e : l[i]? = some x) (h : y ∈ l) : y = x ∨ y ∈ l.eraseIdx i := List.mem_cons.mp ((erase_perm e).mem_iff.mpr h)
theorem mem_erase {α : Type} {l : List α} {i : Nat} {y : α} (h : y ∈ l.eraseIdx i) : y ∈ l := List.mem_of_mem_eraseIdx h
theorem SkInv.step {ps : List Int} {ts : List Str} {fs : Kind} {i j : Nat} {t : Str} {p : Int} (v : SkInv ps ts fs) (ei : ts[i]? = some t) (ej : ps[j]? = some p) : SkInv (ps.eraseIdx j) (ts.eraseIdx i) (fs ++ [(t, p)]) := by
  have ht : t ∈ ts := List.mem_of_getElem? ei
  have hp : p ∈ ps := List.mem_of_getElem? ej
  refine ⟨?_, fun x hx => v.tags x (mem_erase hx), ?_, ?_, fun x hx => v.rng x (mem_erase hx), fun q hq => ?_, ?_⟩
  · have h1 := erase_perm ei
    rw [List.map_append, List.map_singleton]
    refine (List.Perm.nodup_iff ?_).mp v.nd
    refine (h1.symm.append_right _).trans ?_
    rw [List.cons_append]
    refine (List.perm_append_comm (l₁ := [t]) (l₂ := ts.eraseIdx i ++ fs.map (·.1))).trans ?_
    rw [List.append_assoc]
  · rcases v.zero with h | ⟨x, h⟩
    · rcases erase_mem ej h with rfl | h
      · exact .inr ⟨t, List.mem_append_right _ List.mem_cons_self⟩
      · exact .inl h
    · exact .inr ⟨x, List.mem_append_left _ h⟩
  · rcases v.pos with ⟨q, h, hq⟩ | ⟨x, q, h, hq⟩
    · rcases erase_mem ej h with rfl | h
      · exact .inr ⟨t, q, List.mem_append_right _ List.mem_cons_self, hq⟩
      · exact .inl ⟨q, h, hq⟩
    · exact .inr ⟨x, q, List.mem_append_left _ h, hq⟩
  · rcases List.mem_append.mp hq with h | h
    · exact v.frng q h
    · cases List.mem_singleton.mp h
      exact ⟨(v.rng p hp).1, (v.rng p hp).2, v.tags t ht⟩
  · have hj : j < ps.length := (List.getElem?_eq_some_iff.mp ej).1
    rw [List.length_eraseIdx_of_lt hj, List.length_append, List.length_singleton]
    have := v.len
    omega
theorem eraseIdx_map {α β : Type} (f : α → β) (l : List α) (i : Nat) : (l.map f).eraseIdx i = (l.eraseIdx i).map f := by
  induction l generalizing i with
  | nil => rfl
  | cons x l ih => cases i with
    | zero => rfl
    | succ i =>
      rw [List.map_cons, List.eraseIdx_cons_succ, List.eraseIdx_cons_succ, List.map_cons, ih]
theorem sk_loop2 {most : Int} {n : Nat} {s3 : Sl} {DD : EndsD} (hD : ∀ (o : Own) (ts : List Str) (fs : Kind) (s6 : Sl), Dk n o → SkInv [] ts fs → DD.nx [.own o, .dat (.int most), .own (.lst []), s3, .own (.lst (ts.map .str)), .own (.lst (fs.map pairD)), s6]) : ∀ (m : Nat) (o : Own) (ps : List Int) (ts : List Str) (fs : Kind) (s6 : Sl), ps.length = m → m ≤ ts.length → ts.length ≤ 8 → Dk (n + 2 * m) o → SkInv ps ts fs →
    whileN (wBl (wOp (gEqA true) (wVar 2) (wLst [0] wNil))) (skBody2 [0] sp__law_below) DD (m + 1) [.own o, .dat (.int most), .own (.lst (ps.map .int)), s3, .own (.lst (ts.map .str)), .own (.lst (fs.map pairD)), s6]
  | 0, o, ps, ts, fs, s6, hl, ht, hz, hd, v => by
    cases ps with
    | nil =>
      rw [List.map_nil, whileN_succ]
      walk_at "dl"
      exact hD o ts fs s6 hd v
    | cons p ps => cases hl
  | m + 1, o, ps, ts, fs, s6, hl, ht, hz, hd, v => by
    have h0 : (ps.map D.int).isEmpty = false := by
      cases ps with
      | nil => cases hl
      | cons p ps => rfl
    rw [whileN_succ]
    walk_at "dl"
    rw [if_pos (by cases ps with | nil => cases hl | cons p ps => rfl)]
    refine ⟨n + (2 * m + 1), o, _, rfl, hd.mono (by omega), by omega, by omega, fun r o1 r0 r1 hd1 => ?_⟩
    walk_at "dl"
    obtain ⟨t, et⟩ : ∃ t, ts[r.toNat]? = some t := ⟨_, List.getElem?_eq_getElem (by omega)⟩
    obtain ⟨x, ex, ep⟩ := popAt_ok (l := ts.map D.str) r0 (by rw [List.length_map]; exact r1) (by rw [List.length_map]; omega)
    rw [List.getElem?_map, et] at ex
    cases ex
    rw [lk_eq ep]
    walk_at "dl"
    refine ⟨n + 2 * m, o1, _, rfl, hd1.mono (by omega), by omega, by omega, fun q o2 q0 q1 hd2 => ?_⟩
    walk_at "dl"
    obtain ⟨p, epp⟩ : ∃ p, ps[q.toNat]? = some p := ⟨_, List.getElem?_eq_getElem (by omega)⟩
    obtain ⟨y, ey, epq⟩ := popAt_ok (l := ps.map D.int) q0 (by rw [List.length_map]; exact q1) (by rw [List.length_map]; omega)
    rw [List.getElem?_map, epp] at ey
    cases ey
    rw [lk_eq epq]
    walk_at "dl"
    refine ⟨by have := v.len; omega, ?_⟩
    have e1 : fs.map pairD ++ [D.tup [D.str t, D.int p]] = (fs ++ [(t, p)]).map pairD := by rw [List.map_append]; rfl
    rw [e1, eraseIdx_map, eraseIdx_map]
    exact sk_loop2 hD m o2 (ps.eraseIdx q.toNat) (ts.eraseIdx r.toNat) (fs ++ [(t, p)]) _ (by rw [List.length_eraseIdx_of_lt (by omega)]; omega) (by rw [List.length_eraseIdx_of_lt (by omega)]; omega) (by rw [List.length_eraseIdx_of_lt (by omega)]; omega) hd2 (v.step et epp)
theorem pl__law_some_kind : PL 7 2 (fun ks => rd__law_some_kind ks sp__law_below sp__law_pick) sp__law_some_kind := fun args QD ED h => by
  obtain ⟨n, o, most, rfl, hd, m0, m1, h⟩ := h
  refine ⟨rfl, ?_⟩
  unfold rd__law_some_kind
  walk_at "dl"
  refine ⟨n + 99, o, _, rfl, hd, by simp, by decide, fun x o1 hx hd1 => ?_⟩
  obtain ⟨p, rfl, hp⟩ : ∃ p : Int, x = .int p ∧ (p = 2 ∨ p = 3 ∨ p = 4) := by
    simp only [List.mem_cons, List.not_mem_nil, or_false] at hx
    rcases hx with rfl | rfl | rfl | rfl | rfl <;> exact ⟨_, rfl, by decide⟩
  walk_at "dl"
  refine ⟨n + 98, o1, _, rfl, hd1, by omega, by omega, fun r o2 r0 r1 hd2 => ?_⟩
  walk_at "dl"
  refine ⟨by omega, by omega, ?_⟩
  have lr : (rangeD r).length = r.toNat := by unfold rangeD; rw [List.length_map, List.length_range]
  refine sk_loop1 (n := n + 50) (fun o3 ps s3 hd3 hp3 hl3 => ?_) (rangeD r) o2 [0, p] .no (hd2.mono (by rw [lr]; omega)) ⟨by simp, ⟨p, by simp, by omega⟩, fun q hq => ?_⟩ (by rw [lr]; simp; omega)
  · walk_at "dl"
    refine ⟨ps.length + 1, ?_⟩
    refine sk_loop2 (n := n) (fun o4 ts fs s6 hd4 v => ?_) ps.length o3 ps tagNames [] .no rfl (by simpa [tagNames] using hl3) (by decide) (hd3.mono (by omega)) ⟨by decide, fun t ht => ht, .inl hp3.zero, .inl hp3.pos, hp3.rng, (fun q hq => nomatch hq), hl3⟩
    walk_at "dl"
    refine h fs o4 ⟨(List.nodup_append.mp v.nd).2.1, ?_, ?_, v.frng, by simpa using v.len⟩ hd4
    · rcases v.zero with h | h
      · cases h
      · exact h
    · rcases v.pos with ⟨_, h, _⟩ | h
      · cases h
      · exact h
  · simp only [List.mem_cons, List.not_mem_nil, or_false] at hq
    rcases hq with rfl | rfl <;> omega
end DL

set_option Elab.async false
set_option maxRecDepth 100000
set_option maxHeartbeats 4000000
/-! DU: trees recognized. -/
namespace DL
open PySem PySem.Spec PyProof.Rows L2
local macro_rules | `(tactic| walk_at "dl") => `(tactic| simp (config := {decide := false}) only [seqE_nx, seqE_rt, seqE_bk, seqE_ct, loopE_nx, loopE_rt, loopE_bk, loopE_ct, e_seq, e_next, e_break, e_cont, e_retN, e_var, q_var_d, q_var_o, e_c, con_d, con_o, con_b, conS_d, conS_o, own_l, own_d, own_i, z_d, z_n, z_t, z_w, sl_d, sl_o, frz_d, frz_o, frz_b, q_frz_d, q_frz_o, frzs_nil, frzs_cons, k_fzs, k_fz, thin_d, thin_o, thin_b, k_th, thins_nil, thins_cons, k_ths, k_ts, setR_nil, setR_cons, k_e, e_op, k_op1, k_op2, k_op3, k_op4, e_un, k_un1, k_un2, e_nil, e_cons, k_co1, k_co2, conL_nil, conL_cons, k_cl, k_cl2, e_b, k_b1, k_b2, e_tup, k_tup1, k_tup2, e_lst, k_lst1, k_lst2, e_dct0, k_ret, e_call, k_ca1, k_ca2, k_retR, e_callR, k_cr1, k_cr2, k_cr3, e_tr, k_tr1, k_tr2, k_tr3, e_bl, k_bl, e_and, k_and, e_or, k_or, e_not, k_not, e_if, k_if, e_ifS, k_ifS, e_notV, k_nv1, k_nv2, e_andV, k_av1, k_av2, e_orV, k_ov1, k_ov2, bD_bl, e_sl, k_sl1, k_sl2, k_sl3, k_sl4, e_part, k_pt1, k_pt2, e_noP, e_dget, k_ge1, k_ge1b, k_ge2, k_ge3, k_ge4, dctD_d, keyD_i, keyD_s, e_mut, q_mu0, k_mu1, k_mu2, q_mu3, k_mu4, e_put, k_pu1, k_pu2, k_pu3, k_pu4, q_pu4, k_pu5, e_aug, q_au0, k_au1, k_au2, k_au3, e_asg, k_as1, k_as2, e_par, k_pa1, k_pa2, e_unp, k_up1, k_up2, e_hName, e_hNil, e_hCons, k_hc, e_hTup, e_hWt, e_drop, k_dr, e_ret, k_rt_d, k_rt_o, k_rt_b, q_out_o, q_out_d, forL_nil, forL_cons, k_fo2, e_for, k_fo1, k_wh, e_itS, k_it1, k_it2, k_it3, walk_l, walk_f, walk_t, e_itR1, k_r11, k_r12, e_itR2, k_r21, k_r22, e_itE, k_en1, k_en2, k_en3, list_l, list_f, e_lc, k_lc, k_lcQ, compL_nil, compL_cons, k_c1, k_c2, k_c3, k_c4, e_yes, wip_nil, wip_cons, unw_nil, unw_cons, g_int, f_add, f_sub, f_mul, f_div, f_mod, f_pow, f_lt, f_le, f_gt, f_ge, add_i, add_s, add_l, add_t, mul_i, mul_l, mul_t, neg_i, ix_l, ix_t, sl_l, sl_f, sl_t, len_l, len_f, len_t, len_s, abs_i, int_i, lof_l, lof_f, lof_t, tof_l, tof_f, tof_t, dof_t, app_l, ext_t, ext_l, tru_b, tru_i, tru_l, tru_t, tru_n, augN, subN, is_bl, is_non, ixN4_0, ixN4_1, ixN4_2, ixN4_3, lk_some, lk_ite, lk_map, lk_bind, ixOf, endsF_nx, endsF_dat, endsF_own, atI_0, atI_1, atI_2, atI_3, eqA_l0, eqA_tup0, eqA_int, eqA_non, bne_f, bne_t, sizeLine_eq,
  List.cons_append, List.nil_append, List.getElem?_cons_zero, List.getElem?_cons_succ, List.set_cons_zero, List.set_cons_succ, List.length_cons, List.length_nil, List.replicate, List.take_succ_cons, List.take_zero, List.not_mem_nil, List.mem_cons, List.map_cons, List.map_nil, if_false, if_true, Option.map_some, Option.bind_some, Option.getD_some, Nat.reduceAdd, Nat.reduceSub, Nat.reduceLeDiff, Nat.reduceEqDiff, Nat.succ_ne_zero, Nat.zero_ne_one, Nat.one_ne_zero, List.isEmpty_nil, List.isEmpty_cons, List.length_map, List.isEmpty_map, beq_iff_eq, Bool.not_eq_true, reduceCtorEq, or_false, or_true, false_or, true_or, and_true, true_and, List.cons.injEq, Option.some.injEq, Sl.own.injEq, Own.lst.injEq, exists_eq', not_false_eq_true, forall_const, forall_eq, forall_eq_or_imp, decide_eq_true_eq, Bool.not_true, Bool.not_false, Bool.false_eq_true, ite_self])

def rd_parts_of (ks : List Nat) : SD :=
  (wRet ks (wDGet1 (wB gDictOf (wCons (wVar 0) wNil)) (wVar 1)))
def partsD (k : Kind) (t : Str) : D := match k.find? (fun p => p.1 == t) with
  | some p => .int p.2
  | none => .non
def sp_parts_of : DSp := fun args Q _ => ∃ (k : Kind) (t : Str), args = [.dat (kindD k), .dat (.str t)] ∧ (k.map (·.1)).Nodup ∧ Q (.dat (partsD k t)) [.dat (kindD k), .dat (.str t)]
theorem pairsD_kind : ∀ k : Kind, pairsD (k.map pairD) = some (k.map fun p => (Sum.inr p.1, D.int p.2))
  | [] => rfl
  | p :: k => by
    show pairsD (.tup [.str p.1, .int p.2] :: k.map pairD) = _
    unfold pairsD
    rw [pairsD_kind k]
    rfl
theorem parts_look {k : Kind} (nd : (k.map (·.1)).Nodup) (t : Str) : (lookKD (mergeKD [] (k.map fun p => (Sum.inr p.1, D.int p.2))) (Sum.inr t)).getD .non = partsD k t := by
  unfold partsD
  cases h : k.find? (fun p => p.1 == t) with
  | none =>
    have h' := List.find?_eq_none.mp h
    rw [mergeKD_out]
    · rfl
    · intro q hq
      obtain ⟨p, hp, rfl⟩ := List.mem_map.mp hq
      intro e
      have e' : p.1 = t := by injection e
      exact h' p hp (by simpa using e')
  | some p =>
    have h1 := List.mem_of_find?_eq_some h
    have h2 : p.1 = t := by simpa using List.find?_some h
    rw [mergeKD_in (v := D.int p.2)]
    · rfl
    · rw [List.map_map]
      have e : (k.map ((fun q : Key × D => q.1) ∘ fun p => (Sum.inr p.1, D.int p.2))) = (k.map (·.1)).map Sum.inr := by rw [List.map_map]; rfl
      rw [e]
      exact List.Pairwise.map (S := (· ≠ ·)) Sum.inr (fun a b h e => h (by injection e)) nd
    · exact List.mem_map.mpr ⟨p, h1, by rw [h2]⟩
theorem pl_parts_of : PL 2 2 rd_parts_of sp_parts_of := fun args QD ED h => by
  obtain ⟨k, t, rfl, nd, h⟩ := h
  refine ⟨rfl, ?_⟩
  unfold rd_parts_of kindD
  walk_at "dl"
  rw [lk_eq (pairsD_kind k), parts_look nd]
  exact h

/-! ### data that is looked at -/
def rd_is_node (ks : List Nat) (sp_parts_of : DSp) : SD :=
  (wSeq (wIfS (wOr (wNot (wTr (wB gIsi (wCons (wVar 1) (wCons (wC (.ty "tuple")) wNil))))) (wOr (wBl (wOp (gEqA false) (wVar 1) (wTup ks wNil))) (wNot (wTr (wB gIsi (wCons (wOp gIx (wVar 1) (wC (.int 0))) (wCons (wC (.ty "str")) wNil))))))) (wRet ks (wC (.bl false))) wNext)
  (wRet ks (wOp (gEqA false) (wCall ks sp_parts_of (wCons (wVar 0) (wCons (wOp gIx (wVar 1) (wC (.int 0))) wNil))) (wOp (gInt fSub) (wB gLen (wCons (wVar 1) wNil)) (wC (.int 1))))))
mutual
/-- nothing but none, bools, numbers, texts, lists, tuples, empty dicts -/
def Pl : D → Prop
  | .non | .bl _ => True
  | .int i => 0 ≤ i ∧ i ≤ 9
  | .str x => PyData.strOk x = true ∧ x.length ≤ 100
  | .lst l => Pls l
  | .tup l => Pls l
  | .dct [] => True
  | .dct (_ :: _) => False
  | .ins _ _ | .fzl _ | .wt _ | .ty _ | .cls _ => False
def Pls : List D → Prop
  | [] => True
  | d :: ds => Pl d ∧ Pls ds
end
theorem Pls_mem : ∀ {l : List D} {d : D}, Pls l → d ∈ l → Pl d
  | d' :: l, d, h, hm => by
    unfold Pls at h
    rcases List.mem_cons.mp hm with rfl | hm
    · exact h.1
    · exact Pls_mem h.2 hm
theorem Pls_of : ∀ {l : List D}, (∀ d ∈ l, Pl d) → Pls l
  | [], _ => by unfold Pls; exact True.intro
  | d :: l, h => by unfold Pls; exact ⟨h d List.mem_cons_self, Pls_of fun x hx => h x (List.mem_cons_of_mem _ hx)⟩
def isTup : D → Bool
  | .tup _ => true
  | _ => false
def isStr : D → Bool
  | .str _ => true
  | _ => false
theorem isi_tup {d : D} (h : Pl d) : gIsi [d, .ty "tuple"] = some (.d (.bl (isTup d))) := by
  cases d <;> first | rfl | (exfalso; unfold Pl at h; exact h) | (rename_i l; cases l <;> first | rfl | (exfalso; unfold Pl at h; exact h))
theorem isi_str {d : D} (h : Pl d) : gIsi [d, .ty "str"] = some (.d (.bl (isStr d))) := by
  cases d <;> first | rfl | (exfalso; unfold Pl at h; exact h) | (rename_i l; cases l <;> first | rfl | (exfalso; unfold Pl at h; exact h))
def isNodeB (k : Kind) : D → Bool
  | .tup (.str t :: l) => decide ((t, (l.length : Int)) ∈ k)
  | _ => false
def sp_is_node : DSp := fun args Q _ => ∃ (k : Kind) (d : D), args = [.dat (kindD k), .dat d] ∧ (k.map (·.1)).Nodup ∧ Pl d ∧ Q (.dat (.bl (isNodeB k d))) [.dat (kindD k), .dat d]
theorem parts_eq {k : Kind} (nd : (k.map (·.1)).Nodup) (t : Str) (n : Int) : gEqA false (partsD k t) (.int n) = some (.d (.bl (decide ((t, n) ∈ k)))) := by
  unfold partsD
  cases h : k.find? (fun p => p.1 == t) with
  | none =>
    have h' := List.find?_eq_none.mp h
    have e : decide ((t, n) ∈ k) = false := decide_eq_false fun z => h' _ z (by simp)
    rw [e]
    exact eqA_non
  | some p =>
    have h1 := List.mem_of_find?_eq_some h
    have h2 : p.1 = t := by simpa using List.find?_some h
    show gEqA false (.int p.2) (.int n) = _
    rw [eqA_int, bne_f]
    congr 3
    by_cases e : p.2 = n
    · rw [decide_eq_true (by rw [← e, ← h2]; exact h1)]
      simpa using e
    · rw [decide_eq_false]
      · simpa using e
      · intro z
        have hin : ∀ (l : Kind), (l.map (·.1)).Nodup → p ∈ l → (t, n) ∈ l → p.2 = n := by
          intro l
          induction l with
          | nil => intro _ h; cases h
          | cons q l ih =>
            intro nd hp hz
            rw [List.map_cons, List.nodup_cons] at nd
            rcases List.mem_cons.mp hp with rfl | hp <;> rcases List.mem_cons.mp hz with e2 | hz
            · rw [← e2]
            · exact absurd (by rw [h2]; exact List.mem_map.mpr ⟨_, hz, rfl⟩) nd.1
            · exact absurd (by rw [← e2]; show t ∈ _; rw [← h2]; exact List.mem_map_of_mem hp) nd.1
            · exact ih nd.2 hp hz
        exact e (hin k nd h1 z)
theorem pl_is_node : PL 2 2 (fun ks => rd_is_node ks sp_parts_of) sp_is_node := fun args QD ED h => by
  obtain ⟨k, d, rfl, nd, hp, h⟩ := h
  refine ⟨rfl, ?_⟩
  unfold rd_is_node
  walk_at "dl"
  rw [lk_eq (isi_tup hp)]
  walk_at "dl"
  cases d with
  | tup l =>
    rw [if_neg (by simp [isTup])]
    cases l with
    | nil =>
      walk_at "dl"
      exact h
    | cons x l =>
      have hx : Pl x := by unfold Pl Pls at hp; exact hp.1
      walk_at "dl"
      rw [lk_eq (isi_str hx)]
      cases x with
      | str t =>
        have e : isStr (.str t) = true := rfl
        rw [e]
        walk_at "dl"
        refine ⟨k, t, rfl, nd, ?_⟩
        walk_at "dl"
        have e2 : ((l.length + 1 : Nat) : Int) - 1 = (l.length : Int) := by omega
        rw [e2, lk_eq (parts_eq nd t _)]
        walk_at "dl"
        exact h
      | _ =>
        simp only [isStr]
        walk_at "dl"
        exact h
  | _ =>
    rw [if_pos (by simp [isTup])]
    exact h

def rd_is_tree (ks : List Nat) (sp_is_node : DSp) : SD :=
  (wSeq (wAsg ks 2 (wLst ks (wCons (wVar 1) wNil)))
  (wSeq (wWhile (wBl (wOp (gEqA true) (wVar 2) (wLst ks wNil))) (wSeq (wAsg ks 3 (wMut ks 2 gPop wNil))
  (wSeq (wIfS (wNot (wTr (wCall ks sp_is_node (wCons (wVar 0) (wCons (wVar 3) wNil))))) (wRet ks (wC (.bl false))) wNext)
  (wDrop (wMut ks 2 gExtend (wCons (wSl gSl (wVar 3) (wPart (wC (.int 1))) wNoP) wNil))))))
  (wRet ks (wC (.bl true)))))
mutual
def isTreeB (k : Kind) : D → Bool
  | .tup (.str t :: l) => decide ((t, (l.length : Int)) ∈ k) && allTreeB k l
  | .tup [] | .tup (.non :: _) | .tup (.bl _ :: _) | .tup (.int _ :: _) | .tup (.lst _ :: _) | .tup (.tup _ :: _) | .tup (.dct _ :: _) | .tup (.ins _ _ :: _) | .tup (.fzl _ :: _) | .tup (.wt _ :: _) | .tup (.ty _ :: _) | .tup (.cls _ :: _) => false
  | .non | .bl _ | .int _ | .str _ | .lst _ | .dct _ | .ins _ _ | .fzl _ | .wt _ | .ty _ | .cls _ => false
def allTreeB (k : Kind) : List D → Bool
  | [] => true
  | d :: ds => isTreeB k d && allTreeB k ds
end
mutual
/-- how many objects there are, counted as a tree -/
def cnt : D → Nat
  | .tup l => 1 + cnts l
  | .lst l => 1 + cnts l
  | _ => 1
def cnts : List D → Nat
  | [] => 0
  | d :: ds => cnt d + cnts ds
end
theorem cnts_app : ∀ (a b : List D), cnts (a ++ b) = cnts a + cnts b
  | [], b => by rw [List.nil_append]; show _ = 0 + _; omega
  | d :: a, b => by rw [List.cons_append]; show cnt d + cnts (a ++ b) = cnt d + cnts a + cnts b; rw [cnts_app a b]; omega
theorem cnt_pos (d : D) : 1 ≤ cnt d := by cases d <;> unfold cnt <;> omega
theorem cnts_len : ∀ l : List D, l.length ≤ cnts l
  | [] => Nat.le_refl _
  | d :: l => by
    show l.length + 1 ≤ cnt d + cnts l
    have := cnts_len l
    have := cnt_pos d
    omega
theorem all_app (k : Kind) : ∀ (a b : List D), allTreeB k (a ++ b) = (allTreeB k a && allTreeB k b)
  | [], b => by rw [List.nil_append]; unfold allTreeB; rfl
  | d :: a, b => by
    show (isTreeB k d && allTreeB k (a ++ b)) = ((isTreeB k d && allTreeB k a) && allTreeB k b)
    rw [all_app k a b, Bool.and_assoc]
theorem tree_node {k : Kind} {d : D} (h : isNodeB k d = false) : isTreeB k d = false := by
  unfold isNodeB at h
  split at h
  · unfold isTreeB; rw [h]; rfl
  · rename_i hn
    cases d with
    | tup l =>
      cases l with
      | nil => unfold isTreeB; rfl
      | cons x l => cases x <;> first | (unfold isTreeB; rfl) | exact absurd rfl (hn _ _)
    | _ => unfold isTreeB; rfl
theorem node_shape {k : Kind} {d : D} (h : isNodeB k d = true) : ∃ t l, d = .tup (.str t :: l) ∧ (t, (l.length : Int)) ∈ k := by
  unfold isNodeB at h
  split at h
  · exact ⟨_, _, rfl, of_decide_eq_true h⟩
  · cases h
def sp_is_tree : DSp := fun args Q _ => ∃ (k : Kind) (d : D), args = [.dat (kindD k), .dat d] ∧ (k.map (·.1)).Nodup ∧ Pl d ∧ cnt d < 900000 ∧ Q (.dat (.bl (isTreeB k d))) [.dat (kindD k), .dat d]
abbrev itBody (ks : List Nat) (sp_is_node : DSp) : SD := (wSeq (wAsg ks 3 (wMut ks 2 gPop wNil))
  (wSeq (wIfS (wNot (wTr (wCall ks sp_is_node (wCons (wVar 0) (wCons (wVar 3) wNil))))) (wRet ks (wC (.bl false))) wNext)
  (wDrop (wMut ks 2 gExtend (wCons (wSl gSl (wVar 3) (wPart (wC (.int 1))) wNoP) wNil)))))
theorem Pls_app {a b : List D} (ha : Pls a) (hb : Pls b) : Pls (a ++ b) := Pls_of fun d hd => (List.mem_append.mp hd).elim (Pls_mem ha) (Pls_mem hb)
theorem it_loop {k : Kind} {thing : D} {DD : EndsD} (nd : (k.map (·.1)).Nodup) (res : Bool) (hN : res = true → ∀ s3, DD.nx [.dat (kindD k), .dat thing, .own (.lst []), s3]) (hF : res = false → ∀ (w : List D) (s3 : Sl), DD.rt (.dat (.bl false)) [.dat (kindD k), .dat thing, .own (.lst w), s3]) : ∀ (m : Nat) (w : List D) (s3 : Sl), cnts w ≤ m → cnts w < 900000 → Pls w → allTreeB k w = res →
    whileN (wBl (wOp (gEqA true) (wVar 2) (wLst [] wNil))) (itBody [] sp_is_node) DD (m + 1) [.dat (kindD k), .dat thing, .own (.lst w), s3] := by
  intro m
  induction m with
  | zero =>
    intro w s3 hm hz hp hr
    cases w with
    | nil =>
      rw [whileN_succ]
      walk_at "dl"
      exact hN hr.symm s3
    | cons d w =>
      exfalso
      have : cnts (d :: w) = cnt d + cnts w := rfl
      have := cnt_pos d
      omega
  | succ m ih =>
    intro w s3 hm hz hp hr
    rcases List.eq_nil_or_concat w with rfl | ⟨w, d, rfl⟩
    · rw [whileN_succ]
      walk_at "dl"
      exact hN hr.symm s3
    · rw [List.concat_eq_append] at *
      have hd : Pl d := Pls_mem hp (List.mem_append_right _ List.mem_cons_self)
      have hw : Pls w := Pls_of fun x hx => Pls_mem hp (List.mem_append_left _ hx)
      have hc : cnts (w ++ [d]) = cnts w + cnt d := by rw [cnts_app]; show _ + (cnt d + 0) = _; omega
      have he : (w ++ [d]).isEmpty = false := by cases w <;> rfl
      rw [whileN_succ]
      walk_at "dl"
      rw [he]
      walk_at "dl"
      rw [lk_eq pop_ok]
      walk_at "dl"
      refine ⟨k, d, rfl, nd, hd, ?_⟩
      walk_at "dl"
      rw [all_app] at hr
      have ha : allTreeB k [d] = isTreeB k d := by unfold allTreeB; unfold allTreeB; rw [Bool.and_true]
      rw [ha] at hr
      cases hn : isNodeB k d with
      | false =>
        walk_at "dl"
        rw [tree_node hn, Bool.and_false] at hr
        exact hF hr.symm _ _
      | true =>
        obtain ⟨t, l, rfl, hin⟩ := node_shape hn
        walk_at "dl"
        have e1 : cutD (D.str t :: l) (some 1) none = l := cutD_from 1
        rw [e1]
        have e2 : cnt (.tup (.str t :: l)) = 2 + cnts l := by
          show 1 + (1 + cnts l) = _
          omega
        have hl := cnts_len (w ++ l)
        rw [cnts_app] at hl
        refine ⟨by rw [List.length_append] at hl; omega, ?_⟩
        refine ih (w ++ l) _ (by rw [cnts_app]; omega) (by rw [cnts_app]; omega) (Pls_app hw ?_) ?_
        · unfold Pl at hd; unfold Pls at hd; exact hd.2
        · rw [all_app, ← hr]
          congr 1
          conv => rhs; unfold isTreeB
          rw [decide_eq_true hin, Bool.true_and]
theorem pl_is_tree : PL 4 2 (fun ks => rd_is_tree ks sp_is_node) sp_is_tree := fun args QD ED h => by
  obtain ⟨k, d, rfl, nd, hp, hc, h⟩ := h
  refine ⟨rfl, ?_⟩
  unfold rd_is_tree
  walk_at "dl"
  refine ⟨cnts [d] + 1, ?_⟩
  have e0 : cnts [d] = cnt d := by show cnt d + 0 = _; omega
  have ha : allTreeB k [d] = isTreeB k d := by unfold allTreeB; unfold allTreeB; rw [Bool.and_true]
  refine it_loop nd (isTreeB k d) (fun e s3 => ?_) (fun e w s3 => ?_) (cnts [d]) [d] .no (Nat.le_refl _) (by omega) (by unfold Pls; unfold Pls; exact ⟨hp, True.intro⟩) ha
  · walk_at "dl"
    rw [← e]; exact h
  · walk_at "dl"
    rw [← e]; exact h

/-! ### the number of tags -/
def rd_nodes_of (ks : List Nat) : SD :=
  (wSeq (wPar ks [1, 2] (wCons (wLst ks (wCons (wVar 0) wNil)) (wCons (wC (.int 0)) wNil)))
  (wSeq (wWhile (wBl (wOp (gInt fLt) (wVar 2) (wB gLen (wCons (wVar 1) wNil)))) (wSeq (wDrop (wMut ks 1 gExtend (wCons (wSl gSl (wOp gIx (wVar 1) (wVar 2)) (wPart (wC (.int 1))) wNoP) wNil)))
  (wAug ks 2 gAddN (wC (.int 1)))))
  (wRet ks (wVar 1))))
def rd_size_of (ks : List Nat) (sp_nodes_of : DSp) : SD :=
  (wRet ks (wB gLen (wCons (wCall ks sp_nodes_of (wCons (wVar 0) wNil)) wNil)))
mutual
/-- how many tags a tree has -/
def tagN : D → Nat
  | .tup (_ :: l) => 1 + tagNs l
  | .tup [] | .non | .bl _ | .int _ | .str _ | .lst _ | .dct _ | .ins _ _ | .fzl _ | .wt _ | .ty _ | .cls _ => 1
def tagNs : List D → Nat
  | [] => 0
  | d :: ds => tagN d + tagNs ds
end
theorem tagNs_app : ∀ (a b : List D), tagNs (a ++ b) = tagNs a + tagNs b
  | [], b => by rw [List.nil_append]; show _ = 0 + _; omega
  | d :: a, b => by rw [List.cons_append]; show tagN d + tagNs (a ++ b) = tagN d + tagNs a + tagNs b; rw [tagNs_app a b]; omega
theorem tagN_pos (d : D) : 1 ≤ tagN d := by
  cases d with
  | tup l => cases l with
    | nil => exact Nat.le_refl _
    | cons x l => show 1 ≤ 1 + tagNs l; omega
  | _ => exact Nat.le_refl _
theorem tagNs_len : ∀ l : List D, l.length ≤ tagNs l
  | [] => Nat.le_refl _
  | d :: l => by
    show l.length + 1 ≤ tagN d + tagNs l
    have := tagNs_len l
    have := tagN_pos d
    omega
mutual
/-- tuples that are not empty, all the way down: trees -/
def TupT : D → Prop
  | .tup (_ :: l) => TupTs l
  | .tup [] | .non | .bl _ | .int _ | .str _ | .lst _ | .dct _ | .ins _ _ | .fzl _ | .wt _ | .ty _ | .cls _ => False
def TupTs : List D → Prop
  | [] => True
  | d :: ds => TupT d ∧ TupTs ds
end
theorem TupTs_mem : ∀ {l : List D} {d : D}, TupTs l → d ∈ l → TupT d
  | d' :: l, d, h, hm => by
    have h : TupT d' ∧ TupTs l := h
    rcases List.mem_cons.mp hm with rfl | hm
    · exact h.1
    · exact TupTs_mem h.2 hm
theorem TupTs_of : ∀ {l : List D}, (∀ d ∈ l, TupT d) → TupTs l
  | [], _ => True.intro
  | d :: l, h => ⟨h d List.mem_cons_self, TupTs_of fun x hx => h x (List.mem_cons_of_mem _ hx)⟩
theorem tupT_shape {d : D} (h : TupT d) : ∃ x l, d = .tup (x :: l) ∧ TupTs l := by
  cases d with
  | tup l => cases l with
    | nil => exact h.elim
    | cons x l => exact ⟨x, l, rfl, h⟩
  | _ => exact h.elim
def sp_nodes_of : DSp := fun args Q _ => ∃ (d : D), args = [.dat d] ∧ TupT d ∧ tagN d < 900000 ∧ ∀ l : List D, l.length = tagN d → Q (.own (.lst l)) [.dat d]
abbrev noBody (ks : List Nat) : SD := (wSeq (wDrop (wMut ks 1 gExtend (wCons (wSl gSl (wOp gIx (wVar 1) (wVar 2)) (wPart (wC (.int 1))) wNoP) wNil)))
  (wAug ks 2 gAddN (wC (.int 1))))
theorem no_loop {d : D} {DD : EndsD} {N : Nat} (hz : N < 900000) (hN : ∀ (l : List D) (at_ : Int), l.length = N → DD.nx [.dat d, .own (.lst l), .dat (.int at_)]) : ∀ (m at_ : Nat) (l : List D), N - at_ = m → at_ ≤ l.length → at_ + tagNs (l.drop at_) = N → TupTs (l.drop at_) →
    whileN (wBl (wOp (gInt fLt) (wVar 2) (wB gLen (wCons (wVar 1) wNil)))) (noBody []) DD (m + 1) [.dat d, .own (.lst l), .dat (.int (at_ : Nat))] := by
  intro m
  induction m with
  | zero =>
    intro at_ l hm h1 h2 h3
    have h4 := tagNs_len (l.drop at_)
    rw [List.length_drop] at h4
    have e : l.length = at_ := by omega
    rw [whileN_succ]
    walk_at "dl"
    rw [if_neg (by omega)]
    exact hN l _ (by rw [List.drop_of_length_le (by omega)] at h2; have : tagNs [] = 0 := rfl; omega)
  | succ m ih =>
    intro at_ l hm h1 h2 h3
    have h4 := tagNs_len (l.drop at_)
    rw [List.length_drop] at h4
    rw [whileN_succ]
    walk_at "dl"
    by_cases hlt : at_ < l.length
    · rw [if_pos (by omega)]
      have ed : l.drop at_ = l[at_] :: l.drop (at_ + 1) := List.drop_eq_getElem_cons hlt
      rw [ed] at h2 h3
      have h3' : TupT l[at_] ∧ TupTs (l.drop (at_ + 1)) := h3
      obtain ⟨x, r, ex, hr⟩ := tupT_shape h3'.1
      have e1 : atI l (at_ : Int) = some (.tup (x :: r)) := by rw [atI_nat rfl, List.getElem?_eq_getElem hlt, ex]
      rw [lk_eq e1]
      walk_at "dl"
      have e2 : cutD (x :: r) (some 1) none = r := cutD_from 1
      rw [e2]
      have h2' : at_ + (tagN l[at_] + tagNs (l.drop (at_ + 1))) = N := h2
      have e3 : tagN l[at_] = 1 + tagNs r := by rw [ex]; rfl
      have h5 := tagNs_len r
      have h6 := tagNs_len (l.drop (at_ + 1))
      rw [List.length_drop] at h6
      refine ⟨by omega, ?_⟩
      have e4 : ((at_ : Nat) : Int) + 1 = ((at_ + 1 : Nat) : Int) := by omega
      rw [e4]
      have e5 : (l ++ r).drop (at_ + 1) = l.drop (at_ + 1) ++ r := List.drop_append_of_le_length (by omega)
      refine ih (at_ + 1) (l ++ r) (by omega) (by rw [List.length_append]; omega) ?_ ?_
      · rw [e5, tagNs_app]; omega
      · rw [e5]
        exact TupTs_of fun y hy => (List.mem_append.mp hy).elim (TupTs_mem h3'.2) (TupTs_mem hr)
    · rw [if_neg (by omega)]
      have e : l.length = at_ := by omega
      exact hN l _ (by rw [List.drop_of_length_le (by omega)] at h2; have : tagNs [] = 0 := rfl; omega)
theorem pl_nodes_of : PL 3 1 rd_nodes_of sp_nodes_of := fun args QD ED h => by
  obtain ⟨d, rfl, ht, hz, h⟩ := h
  refine ⟨rfl, ?_⟩
  unfold rd_nodes_of
  walk_at "dl"
  refine ⟨tagN d + 1, ?_⟩
  have e0 : tagNs [d] = tagN d := by show tagN d + 0 = _; omega
  refine no_loop hz (fun l at_ hl => ?_) (tagN d) 0 [d] (by omega) (Nat.zero_le _) (by rw [List.drop_zero, e0]; omega) ⟨ht, True.intro⟩
  walk_at "dl"
  exact h l hl
def sp_size_of : DSp := fun args Q _ => ∃ (d : D), args = [.dat d] ∧ TupT d ∧ tagN d < 900000 ∧ Q (.dat (.int (tagN d : Nat))) [.dat d]
theorem pl_size_of : PL 1 1 (fun ks => rd_size_of ks sp_nodes_of) sp_size_of := fun args QD ED h => by
  obtain ⟨d, rfl, ht, hz, h⟩ := h
  refine ⟨rfl, ?_⟩
  unfold rd_size_of
  walk_at "dl"
  refine ⟨d, rfl, ht, hz, fun l hl => ?_⟩
  walk_at "dl"
  rw [hl]
  exact h
end DL

set_option Elab.async false
set_option maxRecDepth 100000
set_option maxHeartbeats 4000000
/-! DV: the texts of data; trees drawn; the law's own look. -/
namespace DL
open PySem PySem.Spec PyProof.Rows L2
local macro_rules | `(tactic| walk_at "dl") => `(tactic| simp (config := {decide := false}) only [seqE_nx, seqE_rt, seqE_bk, seqE_ct, loopE_nx, loopE_rt, loopE_bk, loopE_ct, e_seq, e_next, e_break, e_cont, e_retN, e_var, q_var_d, q_var_o, e_c, con_d, con_o, con_b, conS_d, conS_o, own_l, own_d, own_i, z_d, z_n, z_t, z_w, sl_d, sl_o, frz_d, frz_o, frz_b, q_frz_d, q_frz_o, frzs_nil, frzs_cons, k_fzs, k_fz, thin_d, thin_o, thin_b, k_th, thins_nil, thins_cons, k_ths, k_ts, setR_nil, setR_cons, k_e, e_op, k_op1, k_op2, k_op3, k_op4, e_un, k_un1, k_un2, e_nil, e_cons, k_co1, k_co2, conL_nil, conL_cons, k_cl, k_cl2, e_b, k_b1, k_b2, e_tup, k_tup1, k_tup2, e_lst, k_lst1, k_lst2, e_dct0, k_ret, e_call, k_ca1, k_ca2, k_retR, e_callR, k_cr1, k_cr2, k_cr3, e_tr, k_tr1, k_tr2, k_tr3, e_bl, k_bl, e_and, k_and, e_or, k_or, e_not, k_not, e_if, k_if, e_ifS, k_ifS, e_notV, k_nv1, k_nv2, e_andV, k_av1, k_av2, e_orV, k_ov1, k_ov2, bD_bl, e_sl, k_sl1, k_sl2, k_sl3, k_sl4, e_part, k_pt1, k_pt2, e_noP, e_dget, k_ge1, k_ge1b, k_ge2, k_ge3, k_ge4, dctD_d, keyD_i, keyD_s, e_mut, q_mu0, k_mu1, k_mu2, q_mu3, k_mu4, e_put, k_pu1, k_pu2, k_pu3, k_pu4, q_pu4, k_pu5, e_aug, q_au0, k_au1, k_au2, k_au3, e_asg, k_as1, k_as2, e_par, k_pa1, k_pa2, e_unp, k_up1, k_up2, e_hName, e_hNil, e_hCons, k_hc, e_hTup, e_hWt, e_drop, k_dr, e_ret, k_rt_d, k_rt_o, k_rt_b, q_out_o, q_out_d, forL_nil, forL_cons, k_fo2, e_for, k_fo1, k_wh, e_itS, k_it1, k_it2, k_it3, walk_l, walk_f, walk_t, e_itR1, k_r11, k_r12, e_itR2, k_r21, k_r22, e_itE, k_en1, k_en2, k_en3, list_l, list_f, e_lc, k_lc, k_lcQ, compL_nil, compL_cons, k_c1, k_c2, k_c3, k_c4, e_yes, wip_nil, wip_cons, unw_nil, unw_cons, g_int, f_add, f_sub, f_mul, f_div, f_mod, f_pow, f_lt, f_le, f_gt, f_ge, add_i, add_s, add_l, add_t, mul_i, mul_l, mul_t, neg_i, ix_l, ix_t, sl_l, sl_f, sl_t, len_l, len_f, len_t, len_s, abs_i, int_i, lof_l, lof_f, lof_t, tof_l, tof_f, tof_t, dof_t, app_l, ext_t, ext_l, tru_b, tru_i, tru_l, tru_t, tru_n, augN, subN, is_bl, is_non, ixN4_0, ixN4_1, ixN4_2, ixN4_3, lk_some, lk_ite, lk_map, lk_bind, ixOf, endsF_nx, endsF_dat, endsF_own, atI_0, atI_1, atI_2, atI_3, eqA_l0, eqA_tup0, eqA_int, eqA_non, bne_f, bne_t, sizeLine_eq,
  List.cons_append, List.nil_append, List.getElem?_cons_zero, List.getElem?_cons_succ, List.set_cons_zero, List.set_cons_succ, List.length_cons, List.length_nil, List.replicate, List.take_succ_cons, List.take_zero, List.not_mem_nil, List.mem_cons, List.map_cons, List.map_nil, if_false, if_true, Option.map_some, Option.bind_some, Option.getD_some, Nat.reduceAdd, Nat.reduceSub, Nat.reduceLeDiff, Nat.reduceEqDiff, Nat.succ_ne_zero, Nat.zero_ne_one, Nat.one_ne_zero, List.isEmpty_nil, List.isEmpty_cons, List.length_map, List.isEmpty_map, beq_iff_eq, Bool.not_eq_true, reduceCtorEq, or_false, or_true, false_or, true_or, and_true, true_and, List.cons.injEq, Option.some.injEq, Sl.own.injEq, Own.lst.injEq, exists_eq', not_false_eq_true, forall_const, forall_eq, forall_eq_or_imp, decide_eq_true_eq, Bool.not_true, Bool.not_false, Bool.false_eq_true, ite_self])

mutual
/-- a bound of the length of a text, of the depth -/
def tl : D → Nat
  | .str x => 10 * x.length + 2
  | .tup l => 3 + tls l
  | .lst l => 3 + tls l
  | _ => 5
def tls : List D → Nat
  | [] => 0
  | d :: ds => tl d + 2 + tls ds
end
mutual
def dp : D → Nat
  | .tup l => dps l + 1
  | .lst l => dps l + 1
  | .dct _ => 1
  | _ => 0
def dps : List D → Nat
  | [] => 0
  | d :: ds => max (dp d) (dps ds)
end
theorem textFrom_le : ∀ (ts : List Str) (k : Nat) (acc : Str), (textFrom k acc ts).length ≤ acc.length + piled ts
  | [], k, acc => by show acc.length ≤ acc.length + 0; omega
  | t :: r, k, acc => by
    have ih := textFrom_le r (k + 1) (acc ++ (if k > 0 then ", " else "" : String) ++ t)
    have e : (acc ++ (if k > 0 then ", " else "" : String) ++ t).length = acc.length + (if k > 0 then 2 else 0) + t.length := by
      rw [strLen_append, strLen_append]
      split <;> rfl
    show (textFrom (k + 1) _ r).length ≤ _
    rw [piled_cons]
    have : (if k > 0 then 2 else 0 : Nat) ≤ 2 := by split <;> omega
    omega
theorem listText_le (ts : List Str) : (listText ts).length ≤ 3 + piled ts := by
  unfold listText
  rw [strLen_append]
  have := textFrom_le ts 0 "["
  have e1 : (Str.ofString "[").length = 1 := by decide
  have e2 : (Str.ofString "]").length = 1 := by decide
  omega
theorem tupleText_le (ts : List Str) : (tupleText ts).length ≤ 3 + piled ts := by
  unfold tupleText
  rw [strLen_append, strLen_append]
  have e1 : (Str.ofString "(").length = 1 := by decide
  have e2 : (Str.ofString (if (ts.length == 1) = true then ",)" else ")")).length ≤ 2 := by split <;> decide
  by_cases h : ts = []
  · subst h
    have : (Str.join ", " ([] : List Str)).length = 0 := by decide
    have e3 : (Str.ofString (if (([] : List Str).length == 1) = true then ",)" else ")")).length = 1 := by decide
    omega
  · have := join_length_add ts h
    omega
theorem str_int9 {i : Int} (h0 : 0 ≤ i) (h9 : i ≤ 9) : (Str.ofString (toString i)).length ≤ 5 := by
  have : i = 0 ∨ i = 1 ∨ i = 2 ∨ i = 3 ∨ i = 4 ∨ i = 5 ∨ i = 6 ∨ i = 7 ∨ i = 8 ∨ i = 9 := by omega
  rcases this with rfl | rfl | rfl | rfl | rfl | rfl | rfl | rfl | rfl | rfl <;> decide
theorem strOk_lt {x : Str} (h : PyData.strOk x = true) : ∀ c ∈ x.cps.toList, c < 16 ^ 8 := fun c hc => by
  unfold PyData.strOk at h
  rw [← Array.all_toList, List.all_eq_true] at h
  have := h c hc
  have := of_decide_eq_true this
  omega
mutual
theorem pl_text : ∀ d : D, Pl d → ∃ p, pyR d = some p ∧ p.showable = true ∧ p.depth = dp d ∧ p.shown.length ≤ tl d
  | .non, _ => ⟨_, rfl, rfl, rfl, by decide⟩
  | .bl c, _ => ⟨_, rfl, rfl, rfl, by cases c <;> decide⟩
  | .int i, h => ⟨_, rfl, by
      have h : 0 ≤ i ∧ i ≤ 9 := by unfold Pl at h; exact h
      have : i = 0 ∨ i = 1 ∨ i = 2 ∨ i = 3 ∨ i = 4 ∨ i = 5 ∨ i = 6 ∨ i = 7 ∨ i = 8 ∨ i = 9 := by omega
      rcases this with rfl | rfl | rfl | rfl | rfl | rfl | rfl | rfl | rfl | rfl <;> decide +kernel, rfl, by
      have h : 0 ≤ i ∧ i ≤ 9 := by unfold Pl at h; exact h
      exact str_int9 h.1 h.2⟩
  | .str x, h => ⟨_, rfl, rfl, rfl, by
      have h : PyData.strOk x = true ∧ x.length ≤ 100 := by unfold Pl at h; exact h
      exact PySem.StrLaws.reprText_len x (strOk_lt h.1)⟩
  | .lst l, h => by
    obtain ⟨ps, h1, h2, h3, h4⟩ := pls_text l (by unfold Pl at h; exact h)
    refine ⟨.list ps, by unfold pyR; rw [h1]; rfl, by unfold PyData.showable; exact h2, ?_, ?_⟩
    · show PyData.depthAll ps + 1 = dps l + 1
      rw [h3]
    · have := listText_le (PyData.shownAll ps)
      show (listText (PyData.shownAll ps)).length ≤ 3 + tls l
      omega
  | .tup l, h => by
    obtain ⟨ps, h1, h2, h3, h4⟩ := pls_text l (by unfold Pl at h; exact h)
    refine ⟨.tuple ps, by unfold pyR; rw [h1]; rfl, by unfold PyData.showable; exact h2, ?_, ?_⟩
    · show PyData.depthAll ps + 1 = dps l + 1
      rw [h3]
    · have := tupleText_le (PyData.shownAll ps)
      show (tupleText (PyData.shownAll ps)).length ≤ 3 + tls l
      omega
  | .dct [], _ => ⟨.dict [], by unfold pyR; rfl, rfl, rfl, by decide⟩
  | .dct (_ :: _), h => by unfold Pl at h; exact h.elim
  | .ins _ _, h => by unfold Pl at h; exact h.elim
  | .fzl _, h => by unfold Pl at h; exact h.elim
  | .wt _, h => by unfold Pl at h; exact h.elim
  | .ty _, h => by unfold Pl at h; exact h.elim
  | .cls _, h => by unfold Pl at h; exact h.elim
theorem pls_text : ∀ l : List D, Pls l → ∃ ps, pyRs l = some ps ∧ PyData.showableAll ps = true ∧ PyData.depthAll ps = dps l ∧ piled (PyData.shownAll ps) ≤ tls l
  | [], _ => ⟨[], rfl, rfl, rfl, Nat.le_refl _⟩
  | d :: l, h => by
    have h : Pl d ∧ Pls l := by unfold Pls at h; exact h
    obtain ⟨p, a1, a2, a3, a4⟩ := pl_text d h.1
    obtain ⟨ps, b1, b2, b3, b4⟩ := pls_text l h.2
    refine ⟨p :: ps, by unfold pyRs; rw [a1, b1]; rfl, by unfold PyData.showableAll; rw [a2, b2]; rfl, ?_, ?_⟩
    · show max p.depth (PyData.depthAll ps) = max (dp d) (dps l)
      rw [a3, b3]
    · show piled (p.shown :: PyData.shownAll ps) ≤ tl d + 2 + tls l
      rw [piled_cons]
      omega
end
theorem text_ok {d : D} (h : Pl d) (h1 : dp d ≤ 60) (h2 : tl d ≤ 900000) : ∃ x, gRepr [d] = some (.d (.str x)) := by
  obtain ⟨p, a1, a2, a3, a4⟩ := pl_text d h
  refine ⟨p.shown, ?_⟩
  unfold gRepr textD
  dsimp only
  rw [a1]
  show Option.map _ (if p.showable = true ∧ p.depth ≤ 60 ∧ p.shown.length ≤ sizeLine then some p.shown else none) = _
  rw [if_pos ⟨a2, by omega, by rw [sizeLine_eq]; omega⟩]
  rfl
end DL

set_option Elab.async false
set_option maxRecDepth 100000
set_option maxHeartbeats 4000000
/-! DW: trees drawn, the law's own look. -/
namespace DL
open PySem PySem.Spec PyProof.Rows L2
local macro_rules | `(tactic| walk_at "dl") => `(tactic| simp (config := {decide := false}) only [seqE_nx, seqE_rt, seqE_bk, seqE_ct, loopE_nx, loopE_rt, loopE_bk, loopE_ct, e_seq, e_next, e_break, e_cont, e_retN, e_var, q_var_d, q_var_o, e_c, con_d, con_o, con_b, conS_d, conS_o, own_l, own_d, own_i, z_d, z_n, z_t, z_w, sl_d, sl_o, frz_d, frz_o, frz_b, q_frz_d, q_frz_o, frzs_nil, frzs_cons, k_fzs, k_fz, thin_d, thin_o, thin_b, k_th, thins_nil, thins_cons, k_ths, k_ts, setR_nil, setR_cons, k_e, e_op, k_op1, k_op2, k_op3, k_op4, e_un, k_un1, k_un2, e_nil, e_cons, k_co1, k_co2, conL_nil, conL_cons, k_cl, k_cl2, e_b, k_b1, k_b2, e_tup, k_tup1, k_tup2, e_lst, k_lst1, k_lst2, e_dct0, k_ret, e_call, k_ca1, k_ca2, k_retR, e_callR, k_cr1, k_cr2, k_cr3, e_tr, k_tr1, k_tr2, k_tr3, e_bl, k_bl, e_and, k_and, e_or, k_or, e_not, k_not, e_if, k_if, e_ifS, k_ifS, e_notV, k_nv1, k_nv2, e_andV, k_av1, k_av2, e_orV, k_ov1, k_ov2, bD_bl, e_sl, k_sl1, k_sl2, k_sl3, k_sl4, e_part, k_pt1, k_pt2, e_noP, e_dget, k_ge1, k_ge1b, k_ge2, k_ge3, k_ge4, dctD_d, keyD_i, keyD_s, e_mut, q_mu0, k_mu1, k_mu2, q_mu3, k_mu4, e_put, k_pu1, k_pu2, k_pu3, k_pu4, q_pu4, k_pu5, e_aug, q_au0, k_au1, k_au2, k_au3, e_asg, k_as1, k_as2, e_par, k_pa1, k_pa2, e_unp, k_up1, k_up2, e_hName, e_hNil, e_hCons, k_hc, e_hTup, e_hWt, e_drop, k_dr, e_ret, k_rt_d, k_rt_o, k_rt_b, q_out_o, q_out_d, forL_nil, forL_cons, k_fo2, e_for, k_fo1, k_wh, e_itS, k_it1, k_it2, k_it3, walk_l, walk_f, walk_t, e_itR1, k_r11, k_r12, e_itR2, k_r21, k_r22, e_itE, k_en1, k_en2, k_en3, list_l, list_f, e_lc, k_lc, k_lcQ, compL_nil, compL_cons, k_c1, k_c2, k_c3, k_c4, e_yes, wip_nil, wip_cons, unw_nil, unw_cons, g_int, f_add, f_sub, f_mul, f_div, f_mod, f_pow, f_lt, f_le, f_gt, f_ge, add_i, add_s, add_l, add_t, mul_i, mul_l, mul_t, neg_i, ix_l, ix_t, sl_l, sl_f, sl_t, len_l, len_f, len_t, len_s, abs_i, int_i, lof_l, lof_f, lof_t, tof_l, tof_f, tof_t, dof_t, app_l, ext_t, ext_l, tru_b, tru_i, tru_l, tru_t, tru_n, augN, subN, is_bl, is_non, ixN4_0, ixN4_1, ixN4_2, ixN4_3, lk_some, lk_ite, lk_map, lk_bind, ixOf, endsF_nx, endsF_dat, endsF_own, atI_0, atI_1, atI_2, atI_3, eqA_l0, eqA_tup0, eqA_int, eqA_non, bne_f, bne_t, sizeLine_eq,
  List.cons_append, List.nil_append, List.getElem?_cons_zero, List.getElem?_cons_succ, List.set_cons_zero, List.set_cons_succ, List.length_cons, List.length_nil, List.replicate, List.take_succ_cons, List.take_zero, List.not_mem_nil, List.mem_cons, List.map_cons, List.map_nil, if_false, if_true, Option.map_some, Option.bind_some, Option.getD_some, Nat.reduceAdd, Nat.reduceSub, Nat.reduceLeDiff, Nat.reduceEqDiff, Nat.succ_ne_zero, Nat.zero_ne_one, Nat.one_ne_zero, List.isEmpty_nil, List.isEmpty_cons, List.length_map, List.isEmpty_map, beq_iff_eq, Bool.not_eq_true, reduceCtorEq, or_false, or_true, false_or, true_or, and_true, true_and, List.cons.injEq, Option.some.injEq, Sl.own.injEq, Own.lst.injEq, exists_eq', not_false_eq_true, forall_const, forall_eq, forall_eq_or_imp, decide_eq_true_eq, Bool.not_true, Bool.not_false, Bool.false_eq_true, ite_self])

/-- tags that a drawn kind may have, with one or two letters more -/
def TagsOk (k : Kind) : Prop := ∀ q ∈ k, 0 ≤ q.2 ∧ q.2 ≤ 4 ∧ q.1 ∈ tagNames
theorem tag_facts {t : Str} (h : t ∈ tagNames) : PyData.strOk t = true ∧ t.length ≤ 8 := by
  have all : (tagNames.all fun t => PyData.strOk t && decide (t.length ≤ 8)) = true := by decide +kernel
  have := List.all_eq_true.mp all t h
  rw [Bool.and_eq_true] at this
  exact ⟨this.1, of_decide_eq_true this.2⟩
mutual
theorem tree_facts {k : Kind} (hk : TagsOk k) : ∀ d : D, isTreeB k d = true → Pl d ∧ TupT d ∧ tl d + 2 ≤ 120 * tagN d ∧ cnt d = 2 * tagN d
  | .tup (.str t :: l), h => by
    unfold isTreeB at h
    rw [Bool.and_eq_true] at h
    have ht : PyData.strOk t = true ∧ t.length ≤ 8 := tag_facts (hk _ (of_decide_eq_true h.1)).2.2
    obtain ⟨h1, h2, h3, h4⟩ := trees_facts hk l h.2
    refine ⟨?_, h2, ?_, ?_⟩
    · unfold Pl Pls
      exact ⟨by unfold Pl; exact ⟨ht.1, by omega⟩, h1⟩
    · show 3 + (10 * t.length + 2 + 2 + tls l) + 2 ≤ 120 * (1 + tagNs l)
      omega
    · show 1 + (1 + cnts l) = 2 * (1 + tagNs l)
      omega
  | .tup [], h => by unfold isTreeB at h; cases h
  | .tup (.non :: _), h => by unfold isTreeB at h; cases h
  | .tup (.bl _ :: _), h => by unfold isTreeB at h; cases h
  | .tup (.int _ :: _), h => by unfold isTreeB at h; cases h
  | .tup (.lst _ :: _), h => by unfold isTreeB at h; cases h
  | .tup (.tup _ :: _), h => by unfold isTreeB at h; cases h
  | .tup (.dct _ :: _), h => by unfold isTreeB at h; cases h
  | .tup (.ins _ _ :: _), h => by unfold isTreeB at h; cases h
  | .tup (.fzl _ :: _), h => by unfold isTreeB at h; cases h
  | .tup (.wt _ :: _), h => by unfold isTreeB at h; cases h
  | .tup (.ty _ :: _), h => by unfold isTreeB at h; cases h
  | .tup (.cls _ :: _), h => by unfold isTreeB at h; cases h
  | .non, h => by unfold isTreeB at h; cases h
  | .bl _, h => by unfold isTreeB at h; cases h
  | .int _, h => by unfold isTreeB at h; cases h
  | .str _, h => by unfold isTreeB at h; cases h
  | .lst _, h => by unfold isTreeB at h; cases h
  | .dct _, h => by unfold isTreeB at h; cases h
  | .ins _ _, h => by unfold isTreeB at h; cases h
  | .fzl _, h => by unfold isTreeB at h; cases h
  | .wt _, h => by unfold isTreeB at h; cases h
  | .ty _, h => by unfold isTreeB at h; cases h
  | .cls _, h => by unfold isTreeB at h; cases h
theorem trees_facts {k : Kind} (hk : TagsOk k) : ∀ l : List D, allTreeB k l = true → Pls l ∧ TupTs l ∧ tls l ≤ 120 * tagNs l ∧ cnts l = 2 * tagNs l
  | [], _ => ⟨by unfold Pls; exact True.intro, True.intro, Nat.le_refl _, rfl⟩
  | d :: l, h => by
    unfold allTreeB at h
    rw [Bool.and_eq_true] at h
    obtain ⟨a1, a2, a3, a4⟩ := tree_facts hk d h.1
    obtain ⟨b1, b2, b3, b4⟩ := trees_facts hk l h.2
    refine ⟨by unfold Pls; exact ⟨a1, b1⟩, ⟨a2, b2⟩, ?_, ?_⟩
    · show tl d + 2 + tls l ≤ 120 * (tagN d + tagNs l)
      omega
    · show cnt d + cnts l = 2 * (tagN d + tagNs l)
      omega
end
theorem tree_shape {k : Kind} {d : D} (h : isTreeB k d = true) : ∃ t l, d = .tup (.str t :: l) ∧ (t, (l.length : Int)) ∈ k ∧ allTreeB k l = true := by
  cases hn : isNodeB k d with
  | false => rw [tree_node hn] at h; cases h
  | true =>
    obtain ⟨t, l, rfl, hin⟩ := node_shape hn
    unfold isTreeB at h
    rw [Bool.and_eq_true] at h
    exact ⟨t, l, rfl, hin, h.2⟩
theorem tree_make {k : Kind} {t : Str} {l : List D} (h : (t, (l.length : Int)) ∈ k) (hl : allTreeB k l = true) : isTreeB k (.tup (.str t :: l)) = true := by
  unfold isTreeB
  rw [decide_eq_true h, hl]; rfl
theorem all_of {k : Kind} : ∀ {l : List D}, (∀ d ∈ l, isTreeB k d = true) → allTreeB k l = true
  | [], _ => by unfold allTreeB; rfl
  | d :: l, h => by
    unfold allTreeB
    rw [h d List.mem_cons_self, all_of fun x hx => h x (List.mem_cons_of_mem _ hx)]; rfl
theorem all_mem {k : Kind} : ∀ {l : List D} {d : D}, allTreeB k l = true → d ∈ l → isTreeB k d = true
  | d' :: l, d, h, hm => by
    unfold allTreeB at h
    rw [Bool.and_eq_true] at h
    rcases List.mem_cons.mp hm with rfl | hm
    · exact h.1
    · exact all_mem h.2 hm
theorem dps_le {n : Nat} : ∀ {l : List D}, (∀ d ∈ l, dp d ≤ n) → dps l ≤ n
  | [], _ => Nat.zero_le _
  | d :: l, h => by
    show max (dp d) (dps l) ≤ n
    have h1 := h d List.mem_cons_self
    have h2 := dps_le fun x hx => h x (List.mem_cons_of_mem d hx)
    omega
theorem dp_mem : ∀ {l : List D} {d : D}, d ∈ l → dp d ≤ dps l
  | d' :: l, d, hm => by
    show dp d ≤ max (dp d') (dps l)
    rcases List.mem_cons.mp hm with rfl | hm
    · omega
    · have := dp_mem hm; omega
theorem tagNs_le {n : Nat} : ∀ {l : List D}, (∀ d ∈ l, tagN d ≤ n) → tagNs l ≤ n * l.length
  | [], _ => Nat.zero_le _
  | d :: l, h => by
    show tagN d + tagNs l ≤ n * (l.length + 1)
    have h1 := h d List.mem_cons_self
    have h2 := tagNs_le fun x hx => h x (List.mem_cons_of_mem d hx)
    rw [Nat.mul_succ]
    omega

/-! ### a drawn tree -/
def rd__law_some_tree (ks : List Nat) (sp__law_some_tree : DSp) (sp__law_pick : DSp) : SD :=
  (wSeq (wAsg ks 3 (wLc ks (wItS ks (wVar 1)) (hName ks 6) (wOr (wBl (wOp (gEqA false) (wOp gIx (wVar 6) (wC (.int 1))) (wC (.int 0)))) (wBl (wOp (gInt fGt) (wVar 2) (wC (.int 0))))) (wVar 6) [6]))
  (wSeq (wUnp ks (wCallR ks sp__law_pick (wCons (wVar 0) (wCons (wVar 3) wNil))) (hTup 2 (hCons (hName ks 4) (hCons (hName ks 5) hNil))))
  (wRet ks (wOp gAdd (wTup ks (wCons (wVar 4) wNil)) (wB gTupOf (wCons (wLc ks (wItR1 (wCons (wVar 5) wNil)) (hName ks 7) wYes (wCallR ks sp__law_some_tree (wCons (wVar 0) (wCons (wVar 1) (wCons (wOp (gInt fSub) (wVar 2) (wC (.int 1))) wNil)))) [7]) wNil))))))
def fuelT : Nat → Nat
  | 0 => 1
  | m + 1 => 1 + 4 * fuelT m
def sp__law_some_tree (m : Nat) : DSp := fun args Q _ => ∃ (n : Nat) (o : Own) (k : Kind) (deep : Nat), args = [.own o, .dat (kindD k), .dat (.int (deep : Nat))] ∧ deep < m ∧ KindOk k ∧ Dk (n + fuelT deep) o ∧
  ∀ (d : D) (o' : Own), isTreeB k d = true → dp d ≤ deep + 1 → tagN d ≤ fuelT deep → Dk n o' → Q (.dat d) [.own o', .dat (kindD k), .dat (.int (deep : Nat))]
theorem st_comp1 {s0 s1 s3 s4 s5 s7 : Sl} {deep : Int} {Q : List D → Rho → Prop} : ∀ (k acc : Kind), acc.length + k.length ≤ 100 → Q ((acc ++ k.filter fun p => decide (p.2 = 0 ∨ 0 < deep)).map pairD) [s0, s1, .dat (.int deep), s3, s4, s5, .no, s7] →
    compL [0] (hName [0] 6) (wOr (wBl (wOp (gEqA false) (wOp gIx (wVar 6) (wC (.int 1))) (wC (.int 0)))) (wBl (wOp (gInt fGt) (wVar 2) (wC (.int 0))))) (wVar 6) [6] (k.map pairD) (acc.map pairD) [s0, s1, .dat (.int deep), s3, s4, s5, .no, s7] Q
  | [], acc, _, q => by
    rw [List.filter_nil, List.append_nil] at q
    exact q
  | p :: k, acc, hl, q => by
    rw [List.length_cons] at hl
    rw [List.map_cons]
    have ep : pairD p = .tup [.str p.1, .int p.2] := rfl
    rw [ep]
    walk_at "dl"
    have e : acc.map pairD ++ [D.tup [.str p.1, .int p.2]] = (acc ++ [p]).map pairD := by rw [List.map_append]; rfl
    have ih := @st_comp1 s0 s1 s3 s4 s5 s7 deep Q k
    by_cases h : p.2 = 0 ∨ 0 < deep
    · have go : Q ((acc ++ [p] ++ k.filter fun p => decide (p.2 = 0 ∨ 0 < deep)).map pairD) [s0, s1, .dat (.int deep), s3, s4, s5, .no, s7] := by
        rw [List.filter_cons_of_pos (by simpa using h)] at q
        rw [List.append_assoc]
        exact q
      have ih' := ih (acc ++ [p]) (by rw [List.length_append, List.length_singleton]; omega) go
      rw [e]
      by_cases h0 : p.2 = 0
      · rw [if_pos h0]
        exact ⟨by omega, ih'⟩
      · rw [if_neg h0, if_pos (by omega)]
        exact ⟨by omega, ih'⟩
    · rw [List.filter_cons_of_neg (by simpa using h)] at q
      rw [if_neg (fun z => h (.inl z)), if_neg (fun z => h (.inr (by omega)))]
      exact ih acc (by omega) q
theorem st_comp2 {m deep n : Nat} {k : Kind} {s3 s4 s5 s6 : Sl} (hk : KindOk k) (hm : deep < m) {Q : List D → Rho → Prop} : ∀ (ds acc : List D) (o : Own), Dk (n + ds.length * fuelT deep) o → acc.length + ds.length ≤ 100 → (∀ d ∈ acc, isTreeB k d = true ∧ dp d ≤ deep + 1 ∧ tagN d ≤ fuelT deep) →
    (∀ (o : Own) (l : List D), Dk n o → l.length = acc.length + ds.length → (∀ d ∈ l, isTreeB k d = true ∧ dp d ≤ deep + 1 ∧ tagN d ≤ fuelT deep) → Q l [.own o, .dat (kindD k), .dat (.int ((deep + 1 : Nat) : Int)), s3, s4, s5, s6, .no]) →
    compL [0] (hName [0] 7) wYes (wCallR [0] (sp__law_some_tree m) (wCons (wVar 0) (wCons (wVar 1) (wCons (wOp (gInt fSub) (wVar 2) (wC (.int 1))) wNil)))) [7] ds acc [.own o, .dat (kindD k), .dat (.int ((deep + 1 : Nat) : Int)), s3, s4, s5, s6, .no] Q
  | [], acc, o, hd, hl, ha, hQ => hQ o acc (by simpa using hd) (by simp) ha
  | d :: ds, acc, o, hd, hl, ha, hQ => by
    rw [List.length_cons] at hl hd
    walk_at "dl"
    have e1 : ((deep + 1 : Nat) : Int) - 1 = ((deep : Nat) : Int) := by omega
    rw [e1]
    have e2 : n + (ds.length + 1) * fuelT deep = n + ds.length * fuelT deep + fuelT deep := by rw [Nat.succ_mul]; omega
    refine ⟨n + ds.length * fuelT deep, o, k, deep, rfl, hm, hk, by rw [← e2]; exact hd, fun x o1 x1 x2 x3 hd1 => ?_⟩
    walk_at "dl"
    refine ⟨by omega, ?_⟩
    refine st_comp2 hk hm ds (acc ++ [x]) o1 hd1 (by rw [List.length_append, List.length_singleton]; omega) (fun y hy => ?_) (fun o2 l h1 h2 h3 => ?_)
    · rcases List.mem_append.mp hy with h | h
      · exact ha y h
      · cases List.mem_singleton.mp h; exact ⟨x1, x2, x3⟩
    · exact hQ o2 l h1 (by rw [h2, List.length_append, List.length_singleton, List.length_cons]; omega) h3
theorem rangeD_len (j : Int) : (rangeD j).length = j.toNat := by unfold rangeD; rw [List.length_map, List.length_range]
theorem filter_mem {k : Kind} {f : Str × Int → Bool} {x : D} (h : x ∈ (k.filter f).map pairD) : ∃ p, p ∈ k ∧ f p = true ∧ x = pairD p := by
  obtain ⟨p, hp, rfl⟩ := List.mem_map.mp h
  exact ⟨p, (List.mem_filter.mp hp).1, (List.mem_filter.mp hp).2, rfl⟩
theorem pl__law_some_tree (m : Nat) : PL 8 3 (fun ks => rd__law_some_tree ks (sp__law_some_tree m) sp__law_pick) (sp__law_some_tree (m + 1)) := fun args QD ED h => by
  obtain ⟨n, o, k, deep, rfl, hm, hk, hd, h⟩ := h
  refine ⟨rfl, ?_⟩
  unfold rd__law_some_tree
  have ek : kindD k = .tup (k.map pairD) := rfl
  rw [ek]
  walk_at "dl"
  refine ⟨fun o e => (by cases e), ?_⟩
  refine st_comp1 k [] (by have := hk.len; simp; omega) ?_
  rw [List.nil_append]
  walk_at "dl"
  obtain ⟨t0, ht0⟩ := hk.leaf
  have hne : (k.filter fun p => decide (p.2 = 0 ∨ 0 < (deep : Int))).map pairD ≠ [] := fun e => by
    have : (t0, (0 : Int)) ∈ k.filter fun p => decide (p.2 = 0 ∨ 0 < (deep : Int)) := List.mem_filter.mpr ⟨ht0, by simp⟩
    rw [List.map_eq_nil_iff.mp e] at this
    cases this
  have hf : fuelT deep = fuelT deep - 1 + 1 := by cases deep <;> unfold fuelT <;> omega
  refine ⟨n + (fuelT deep - 1), o, _, rfl, by rw [Nat.add_assoc, ← hf]; exact hd, hne, ?_, fun x o1 hx hd1 => ?_⟩
  · rw [List.length_map]
    exact Nat.lt_of_le_of_lt (List.length_filter_le _ k) (by have := hk.len; omega)
  obtain ⟨p, hp, hpf, rfl⟩ := filter_mem hx
  have hpf : p.2 = 0 ∨ 0 < (deep : Int) := of_decide_eq_true hpf
  have hr := hk.rng p hp
  have ep : pairD p = .tup [.str p.1, .int p.2] := rfl
  rw [ep]
  walk_at "dl"
  refine ⟨by omega, by omega, fun o e => (by cases e), ?_⟩
  have lr : (rangeD p.2).length = p.2.toNat := rangeD_len _
  -- the end, whatever the parts are
  have fin : ∀ (l : List D) (o2 : Own), l.length = p.2.toNat → Dk n o2 → (∀ d ∈ l, isTreeB k d = true) → dps l ≤ deep → tagNs l + 1 ≤ fuelT deep → QD (.dat (.tup (.str p.1 :: l))) [.own o2, .dat (.tup (k.map pairD)), .dat (.int (deep : Nat))] := fun l o2 h1 h2 h3 h4 h5 => by
    refine h _ o2 (tree_make ?_ (all_of h3)) ?_ ?_ h2
    · rw [h1]
      have : ((p.2.toNat : Nat) : Int) = p.2 := by omega
      rw [this]; exact hp
    · show max 0 (dps l) + 1 ≤ deep + 1
      omega
    · show 1 + tagNs l ≤ fuelT deep
      omega
  cases deep with
  | zero =>
    have hp0 : p.2 = 0 := by rcases hpf with h | h <;> omega
    have er : rangeD p.2 = [] := by rw [hp0]; rfl
    rw [er]
    walk_at "dl"
    exact fin [] o1 (by rw [hp0]; rfl) (hd1.mono (by omega)) (fun d hd => by cases hd) (Nat.zero_le _) (Nat.le_refl _)
  | succ deep =>
    have e3 : fuelT (deep + 1) = 1 + 4 * fuelT deep := rfl
    have hle : p.2.toNat * fuelT deep ≤ 4 * fuelT deep := Nat.mul_le_mul_right _ (by omega)
    refine st_comp2 (n := n) hk (by omega) (rangeD p.2) [] o1 (hd1.mono (by rw [lr, e3]; omega)) (by rw [lr]; simp; omega) (fun d hd => by cases hd) (fun o2 l h1 h2 h3 => ?_)
    walk_at "dl"
    have hl : l.length = p.2.toNat := by rw [h2, lr]; simp
    refine ⟨by omega, ?_⟩
    refine fin l o2 hl h1 (fun d hd => (h3 d hd).1) (dps_le fun d hd => (h3 d hd).2.1) ?_
    have := tagNs_le fun d hd => (h3 d hd).2.2
    rw [hl, Nat.mul_comm] at this
    rw [e3]
    omega

/-! ### the law's own look -/
def rd__law_is_tree (ks : List Nat) (sp__law_is_tree : DSp) : SD :=
  (wSeq (wIfS (wOr (wNot (wTr (wB gIsi (wCons (wVar 1) (wCons (wC (.ty "tuple")) wNil))))) (wOr (wBl (wOp (gEqA false) (wB gLen (wCons (wVar 1) wNil)) (wC (.int 0)))) (wNot (wTr (wB gIsi (wCons (wOp gIx (wVar 1) (wC (.int 0))) (wCons (wC (.ty "str")) wNil))))))) (wRet ks (wC (.bl false))) wNext)
  (wSeq (wIfS (wBl (wOp (gEqA false) (wLc ks (wItS ks (wVar 0)) (hName ks 2) (wBl (wOp (gEqA false) (wVar 2) (wTup ks (wCons (wOp gIx (wVar 1) (wC (.int 0))) (wCons (wOp (gInt fSub) (wB gLen (wCons (wVar 1) wNil)) (wC (.int 1))) wNil))))) (wVar 2) [2]) (wLst ks wNil))) (wRet ks (wC (.bl false))) wNext)
  (wRet ks (wOp (gIn true) (wC (.bl false)) (wLc ks (wItS ks (wSl gSl (wVar 1) (wPart (wC (.int 1))) wNoP)) (hName ks 3) wYes (wCall ks sp__law_is_tree (wCons (wVar 0) (wCons (wVar 3) wNil))) [3])))))
def sp__law_is_tree (m : Nat) : DSp := fun args Q _ => ∃ (k : Kind) (d : D), args = [.dat (kindD k), .dat d] ∧ KindOk k ∧ Pl d ∧ cnt d < 900000 ∧ dp d < m ∧ Q (.dat (.bl (isTreeB k d))) [.dat (kindD k), .dat d]
theorem pyDs_bools : ∀ bs : List Bool, pyDs (bs.map .bl) = some (bs.map .bool)
  | [] => rfl
  | b :: bs => by rw [List.map_cons]; unfold pyDs; rw [pyDs_bools bs]; rfl
theorem can_bools : ∀ bs : List Bool, PyData.canLayAll0 (bs.map .bool) = true
  | [] => rfl
  | b :: bs => by rw [List.map_cons]; unfold PyData.canLayAll0; rw [can_bools bs]; rfl
theorem any_bools : ∀ bs : List Bool, (bs.map PyData.bool).any (fun e => PyData.eqv e (.bool false)) = !bs.all id
  | [] => rfl
  | b :: bs => by
    rw [List.map_cons, List.any_cons, List.all_cons, any_bools bs]
    cases b
    · rfl
    · show (false || _) = !(true && _)
      rw [Bool.false_or, Bool.true_and]
theorem in_bools (bs : List Bool) : gIn true (.bl false) (.lst (bs.map .bl)) = some (.d (.bl (bs.all id))) := by
  unfold gIn inB
  have e0 : seqD (.lst (bs.map .bl)) = some (bs.map .bl) := rfl
  have e1 : pyD (.bl false) = some (.bool false) := rfl
  rw [e0, e1, Option.bind_some, Option.bind_some, pyDs_bools, Option.bind_some, if_pos ⟨rfl, Nat.zero_le _, can_bools bs⟩, any_bools]
  show some (Z.d (.bl (true != !bs.all id))) = _
  cases bs.all id <;> rfl
theorem all_trees (k : Kind) : ∀ l : List D, (l.map (isTreeB k)).all id = allTreeB k l
  | [] => rfl
  | d :: l => by
    rw [List.map_cons, List.all_cons, all_trees k l]
    rfl
theorem lt_comp1 {t : Str} {l : List D} {n : Int} {s0 s3 : Sl} {Q : List D → Rho → Prop} (ht : PyData.strOk t = true) (hn : ((l.length + 1 : Nat) : Int) - 1 = n) : ∀ (ps acc : Kind), acc.length + ps.length ≤ 100 → TagsOk ps → Q ((acc ++ ps.filter fun p => p.1 == t && p.2 == n).map pairD) [s0, .dat (.tup (.str t :: l)), .no, s3] →
    compL [] (hName [] 2) (wBl (wOp (gEqA false) (wVar 2) (wTup [] (wCons (wOp gIx (wVar 1) (wC (.int 0))) (wCons (wOp (gInt fSub) (wB gLen (wCons (wVar 1) wNil)) (wC (.int 1))) wNil))))) (wVar 2) [2] (ps.map pairD) (acc.map pairD) [s0, .dat (.tup (.str t :: l)), .no, s3] Q
  | [], acc, _, _, q => by
    rw [List.filter_nil, List.append_nil] at q
    exact q
  | p :: ps, acc, hl, ho, q => by
    rw [List.length_cons] at hl
    rw [List.map_cons]
    have ep : pairD p = .tup [.str p.1, .int p.2] := rfl
    rw [ep]
    walk_at "dl"
    rw [hn, lk_eq (eqA_eq (eqB_pair (tag_facts (ho p List.mem_cons_self).2.2).1 ht))]
    have e : acc.map pairD ++ [D.tup [.str p.1, .int p.2]] = (acc ++ [p]).map pairD := by rw [List.map_append]; rfl
    have ho' : TagsOk ps := fun q hq => ho q (List.mem_cons_of_mem _ hq)
    cases hc : (p.1 == t && p.2 == n) with
    | true =>
      walk_at "dl"
      refine ⟨by omega, ?_⟩
      rw [e]
      refine lt_comp1 ht hn ps (acc ++ [p]) (by rw [List.length_append, List.length_singleton]; omega) ho' ?_
      rw [List.filter_cons, if_pos hc] at q
      rw [List.append_assoc]
      exact q
    | false =>
      walk_at "dl"
      refine lt_comp1 ht hn ps acc (by omega) ho' ?_
      rw [List.filter_cons, if_neg (by rw [hc]; exact Bool.false_ne_true)] at q
      exact q
theorem lt_comp2 {m : Nat} {k : Kind} {s1 s2 : Sl} {Q : List D → Rho → Prop} (hk : KindOk k) : ∀ (ds : List D) (acc : List Bool), acc.length + ds.length < 900000 → (∀ d ∈ ds, Pl d ∧ cnt d < 900000 ∧ dp d < m) → Q ((acc ++ ds.map (isTreeB k)).map .bl) [.dat (kindD k), s1, s2, .no] →
    compL [] (hName [] 3) wYes (wCall [] (sp__law_is_tree m) (wCons (wVar 0) (wCons (wVar 3) wNil))) [3] ds (acc.map .bl) [.dat (kindD k), s1, s2, .no] Q
  | [], acc, _, _, q => by
    rw [List.map_nil, List.append_nil] at q
    exact q
  | d :: ds, acc, hl, hd, q => by
    rw [List.length_cons] at hl
    walk_at "dl"
    obtain ⟨h1, h2, h3⟩ := hd d List.mem_cons_self
    refine ⟨k, d, rfl, hk, h1, h2, h3, ?_⟩
    walk_at "dl"
    refine ⟨by omega, ?_⟩
    have e : acc.map D.bl ++ [D.bl (isTreeB k d)] = (acc ++ [isTreeB k d]).map D.bl := by rw [List.map_append]; rfl
    rw [e]
    refine lt_comp2 hk ds _ (by rw [List.length_append, List.length_singleton]; omega) (fun x hx => hd x (List.mem_cons_of_mem _ hx)) ?_
    rw [List.append_assoc]
    exact q
theorem cnt_mem : ∀ {l : List D} {d : D}, d ∈ l → cnt d ≤ cnts l
  | d' :: l, d, hm => by
    show cnt d ≤ cnt d' + cnts l
    rcases List.mem_cons.mp hm with rfl | hm
    · omega
    · have := cnt_mem hm; omega
theorem pl__law_is_tree (m : Nat) : PL 4 2 (fun ks => rd__law_is_tree ks (sp__law_is_tree m)) (sp__law_is_tree (m + 1)) := fun args QD ED h => by
  obtain ⟨k, d, rfl, hk, hp, hc, hm, h⟩ := h
  refine ⟨rfl, ?_⟩
  unfold rd__law_is_tree
  have ek : kindD k = .tup (k.map pairD) := rfl
  rw [ek]
  walk_at "dl"
  rw [lk_eq (isi_tup hp)]
  walk_at "dl"
  cases d with
  | tup l =>
    rw [if_neg (by simp [isTup])]
    cases l with
    | nil =>
      walk_at "dl"
      rw [if_pos (by decide)]
      exact h
    | cons x l =>
      have hx : Pl x := by unfold Pl Pls at hp; exact hp.1
      have hps : Pls l := by unfold Pl Pls at hp; exact hp.2
      walk_at "dl"
      rw [if_neg (by omega), lk_eq (isi_str hx)]
      cases x with
      | str t =>
        have e : isStr (.str t) = true := rfl
        have hst : PyData.strOk t = true ∧ t.length ≤ 100 := by unfold Pl at hx; exact hx
        rw [e]
        walk_at "dl"
        refine ⟨fun o e => (by cases e), ?_⟩
        refine lt_comp1 hst.1 (n := (l.length : Int)) (by omega) k [] (by have := hk.len; simp; omega) hk.rng ?_
        rw [List.nil_append]
        walk_at "dl"
        have hc2 : cnt (.tup (.str t :: l)) = 2 + cnts l := by show 1 + (1 + cnts l) = _; omega
        have hlen := cnts_len l
        cases he : (k.filter fun p => p.1 == t && p.2 == (l.length : Int)).isEmpty with
        | true =>
          walk_at "dl"
          have hn : isTreeB k (.tup (.str t :: l)) = false := by
            refine tree_node ?_
            show decide _ = false
            refine decide_eq_false fun z => ?_
            have : (t, (l.length : Int)) ∈ k.filter fun p => p.1 == t && p.2 == (l.length : Int) := List.mem_filter.mpr ⟨z, by simp⟩
            rw [List.isEmpty_iff.mp he] at this
            cases this
          rw [hn] at h
          exact h
        | false =>
          walk_at "dl"
          refine ⟨fun o e => (by cases e), ?_⟩
          have e1 : cutD (D.str t :: l) (some 1) none = l := cutD_from 1
          rw [e1]
          refine lt_comp2 hk l [] (by simp; omega) (fun d hd => ⟨Pls_mem hps hd, by have := cnt_mem hd; omega, ?_⟩) ?_
          · have h1 : dp (.tup (.str t :: l)) = max 0 (dps l) + 1 := rfl
            have := dp_mem hd
            omega
          · rw [List.nil_append]
            walk_at "dl"
            rw [lk_eq (in_bools _), all_trees]
            walk_at "dl"
            have hin : (t, (l.length : Int)) ∈ k := by
              cases hf : k.filter fun p => p.1 == t && p.2 == (l.length : Int) with
              | nil => rw [hf] at he; cases he
              | cons q r =>
                have : q ∈ k.filter fun p => p.1 == t && p.2 == (l.length : Int) := by rw [hf]; exact List.mem_cons_self
                obtain ⟨h1, h2⟩ := List.mem_filter.mp this
                rw [Bool.and_eq_true] at h2
                have e1 : q.1 = t := by simpa using h2.1
                have e2 : q.2 = (l.length : Int) := by simpa using h2.2
                rw [← e1, ← e2]; exact h1
            have ht : isTreeB k (.tup (.str t :: l)) = allTreeB k l := by
              conv => lhs; unfold isTreeB
              rw [decide_eq_true hin, Bool.true_and]
            rw [ht] at h
            exact h
      | _ =>
        simp only [isStr]
        walk_at "dl"
        exact h
  | _ =>
    rw [if_pos (by simp [isTup])]
    exact h
end DL

set_option Elab.async false
set_option maxRecDepth 100000
set_option maxHeartbeats 4000000
/-! DM: what many laws share, no deck, no kinds: classes of data, comprehensions, texts. -/
namespace DL
open PySem PySem.Spec PyProof.Rows L2
local macro_rules | `(tactic| walk_at "dl") => `(tactic| simp (config := {decide := false}) only [e_fld, k_fl1, k_fl2, k_fl3, insD_i, e_setF, k_sf1, k_sf2, q_sf, e_make, k_mk1, k_mk2, k_mk3, e_never, e_callRR, k_rr1, k_rr2, k_rr3, k_rr4, e_itEA, k_ea1, k_ea2, e_itT2, k_i1, k_i2, e_m1, k_m1, k_m1b, k_m2, k_m3, k_m4, e_itZ, k_z1, e_scLen, k_sc, k_scQ, compT_nil, compT_cons, k_t1, k_t2, k_t2b, k_t3, e_chain, k_ch, k_ch0, k_ch1, k_ch2, k_ch3, k_ch4, k_ch5, k_ch6, rev_l, rev_f, rev_t, clear_l, lista_s, max_2, min_2, inA_s, ix_s, mulA_si, seqE_nx, seqE_rt, seqE_bk, seqE_ct, loopE_nx, loopE_rt, loopE_bk, loopE_ct, e_seq, e_next, e_break, e_cont, e_retN, e_var, q_var_d, q_var_o, e_c, con_d, con_o, con_b, conS_d, conS_o, own_l, own_d, own_i, z_d, z_n, z_t, z_w, sl_d, sl_o, frz_d, frz_o, frz_b, q_frz_d, q_frz_o, frzs_nil, frzs_cons, k_fzs, k_fz, thin_d, thin_o, thin_b, k_th, thins_nil, thins_cons, k_ths, k_ts, setR_nil, setR_cons, k_e, e_op, k_op1, k_op2, k_op3, k_op4, e_un, k_un1, k_un2, e_nil, e_cons, k_co1, k_co2, conL_nil, conL_cons, k_cl, k_cl2, e_b, k_b1, k_b2, e_tup, k_tup1, k_tup2, e_lst, k_lst1, k_lst2, e_dct0, k_ret, e_call, k_ca1, k_ca2, k_retR, e_callR, k_cr1, k_cr2, k_cr3, e_tr, k_tr1, k_tr2, k_tr3, e_bl, k_bl, e_and, k_and, e_or, k_or, e_not, k_not, e_if, k_if, e_ifS, k_ifS, e_notV, k_nv1, k_nv2, e_andV, k_av1, k_av2, e_orV, k_ov1, k_ov2, bD_bl, e_sl, k_sl1, k_sl2, k_sl3, k_sl4, e_part, k_pt1, k_pt2, e_noP, e_dget, k_ge1, k_ge1b, k_ge2, k_ge3, k_ge4, dctD_d, keyD_i, keyD_s, e_mut, q_mu0, k_mu1, k_mu2, q_mu3, k_mu4, e_put, k_pu1, k_pu2, k_pu3, k_pu4, q_pu4, k_pu5, e_aug, q_au0, k_au1, k_au2, k_au3, e_asg, k_as1, k_as2, e_par, k_pa1, k_pa2, e_unp, k_up1, k_up2, e_hName, e_hNil, e_hCons, k_hc, e_hTup, e_hWt, e_drop, k_dr, e_ret, k_rt_d, k_rt_o, k_rt_b, q_out_o, q_out_d, forL_nil, forL_cons, k_fo2, e_for, k_fo1, k_wh, e_itS, k_it1, k_it2, k_it3, walk_l, walk_f, walk_t, e_itR1, k_r11, k_r12, e_itR2, k_r21, k_r22, e_itE, k_en1, k_en2, k_en3, list_l, list_f, e_lc, k_lc, k_lcQ, compL_nil, compL_cons, k_c1, k_c2, k_c3, k_c4, e_yes, wip_nil, wip_cons, unw_nil, unw_cons, g_int, f_add, f_sub, f_mul, f_div, f_mod, f_pow, f_lt, f_le, f_gt, f_ge, add_i, add_s, add_l, add_t, mul_i, mul_l, mul_t, neg_i, ix_l, ix_t, sl_l, sl_f, sl_t, len_l, len_f, len_t, len_s, abs_i, int_i, lof_l, lof_f, lof_t, tof_l, tof_f, tof_t, dof_t, app_l, ext_t, ext_l, tru_b, tru_i, tru_l, tru_t, tru_n, augN, subN, is_bl, is_non, ixN4_0, ixN4_1, ixN4_2, ixN4_3, lk_some, lk_ite, lk_map, lk_bind, ixOf, endsF_nx, endsF_dat, endsF_own, atI_0, atI_1, atI_2, atI_3, eqA_l0, eqA_tup0, eqA_int, eqA_non, bne_f, bne_t, sizeLine_eq,
  List.cons_append, List.nil_append, List.getElem?_cons_zero, List.getElem?_cons_succ, List.set_cons_zero, List.set_cons_succ, List.length_cons, List.length_nil, List.replicate, List.take_succ_cons, List.take_zero, List.not_mem_nil, List.mem_cons, List.map_cons, List.map_nil, if_false, if_true, Option.map_some, Option.bind_some, Option.getD_some, Nat.reduceAdd, Nat.reduceSub, Nat.reduceLeDiff, Nat.reduceEqDiff, Nat.succ_ne_zero, Nat.zero_ne_one, Nat.one_ne_zero, List.isEmpty_nil, List.isEmpty_cons, List.length_map, List.isEmpty_map, beq_iff_eq, Bool.not_eq_true, reduceCtorEq, or_false, or_true, false_or, true_or, and_true, true_and, List.cons.injEq, Option.some.injEq, Sl.own.injEq, Own.lst.injEq, exists_eq', not_false_eq_true, forall_const, forall_eq, forall_eq_or_imp, decide_eq_true_eq, Bool.not_true, Bool.not_false, Bool.false_eq_true, ite_self])

/-! ### classes of data -/
def TyOk (d : D) : Prop := ∃ t, tyD d = some t
def tupB : D → Bool
  | .tup _ => true
  | _ => false
def strB : D → Bool
  | .str _ => true
  | _ => false
def isIntD : D → Bool
  | .int _ | .bl _ => true
  | _ => false
def isBoolD : D → Bool
  | .bl _ => true
  | _ => false
def intB : D → Bool
  | .int _ => true
  | _ => false
theorem isi_tupT {d : D} (h : TyOk d) : gIsi [d, .ty "tuple"] = some (.d (.bl (tupB d))) := by
  obtain ⟨t, h⟩ := h
  cases d <;> first | rfl | cases h
theorem isi_strT {d : D} (h : TyOk d) : gIsi [d, .ty "str"] = some (.d (.bl (strB d))) := by
  obtain ⟨t, h⟩ := h
  cases d <;> first | rfl | cases h
theorem isi_intT {d : D} (h : TyOk d) : gIsi [d, .ty "int"] = some (.d (.bl (isIntD d))) := by
  obtain ⟨t, h⟩ := h
  cases d <;> first | rfl | cases h
theorem isi_boolT {d : D} (h : TyOk d) : gIsi [d, .ty "bool"] = some (.d (.bl (isBoolD d))) := by
  obtain ⟨t, h⟩ := h
  cases d <;> first | rfl | cases h
def rd_is_integer (ks : List Nat) : SD :=
  (wRet ks (wAndV (wB gIsi (wCons (wVar 0) (wCons (wC (.ty "int")) wNil))) (wNotV (wB gIsi (wCons (wVar 0) (wCons (wC (.ty "bool")) wNil))))))
def sp_is_integer : DSp := fun args Q _ => ∃ d : D, args = [.dat d] ∧ TyOk d ∧ Q (.dat (.bl (intB d))) [.dat d]
theorem int_eq (d : D) : intB d = (isIntD d && !isBoolD d) := by cases d <;> rfl
theorem pl_is_integer : PL 1 1 rd_is_integer sp_is_integer := fun args QD ED h => by
  obtain ⟨d, rfl, hd, h⟩ := h
  refine ⟨rfl, ?_⟩
  rw [int_eq] at h
  unfold rd_is_integer
  walk_at "dl"
  rw [lk_eq (isi_intT hd)]
  walk_at "dl"
  split
  · rename_i hc
    rw [lk_eq (isi_boolT hd)]
    walk_at "dl"
    rw [hc, Bool.true_and] at h
    exact h
  · rename_i hc
    rw [Bool.eq_false_iff.mpr hc, Bool.false_and] at h
    exact h

theorem blsD_map {α : Type} (f : α → Bool) : ∀ l : List α, blsD (l.map fun c => .bl (f c)) = some (l.map f)
  | [] => rfl
  | x :: l => by
    rw [List.map_cons]
    show (blsD (l.map _)).map (f x :: ·) = _
    rw [blsD_map f l]; rfl
theorem all_map {α : Type} (f : α → Bool) (l : List α) : gAll [.lst (l.map fun c => .bl (f c))] = some (.d (.bl (l.all f))) := by
  unfold gAll
  dsimp only
  rw [blsD_map]
  show some (Z.d (.bl ((l.map f).all id))) = _
  rw [List.all_map]; rfl
theorem str_orB (d : D) : (∃ x, d = .str x) ∨ strB d = false := by cases d <;> first | exact .inl ⟨_, rfl⟩ | exact .inr rfl
theorem tup_orB (d : D) : (∃ l, d = .tup l) ∨ tupB d = false := by cases d <;> first | exact .inl ⟨_, rfl⟩ | exact .inr rfl
theorem set2_back {ρ : Rho} {i j : Nat} {a b : Sl} (hi : ρ[i]? = some .no) (hj : ρ[j]? = some .no) : ((((ρ.set i a).set j b).set j Sl.no).set i Sl.no) = ρ := by
  refine List.ext_getElem? fun n => ?_
  simp only [List.getElem?_set, List.length_set]
  by_cases h1 : i = n
  · subst h1
    rw [if_pos rfl, if_pos (List.getElem?_eq_some_iff.mp hi).1, hi]
  · rw [if_neg h1]
    by_cases h2 : j = n
    · subst h2
      rw [if_pos rfl, if_pos (List.getElem?_eq_some_iff.mp hj).1, hj]
    · rw [if_neg h2, if_neg h2, if_neg h1]
theorem set1_back {ρ : Rho} {i : Nat} {a : Sl} (hi : ρ[i]? = some .no) : ((ρ.set i a).set i Sl.no) = ρ := by
  refine List.ext_getElem? fun n => ?_
  simp only [List.getElem?_set, List.length_set]
  by_cases h1 : i = n
  · subst h1
    rw [if_pos rfl, if_pos (List.getElem?_eq_some_iff.mp hi).1, hi]
  · rw [if_neg h1, if_neg h1]
theorem set_at' {ρ : Rho} {i : Nat} {a b : Sl} (hi : ρ[i]? = some b) : (ρ.set i a)[i]? = some a := by
  rw [List.getElem?_set, if_pos rfl, if_pos (List.getElem?_eq_some_iff.mp hi).1]
theorem set_ne' {ρ : Rho} {i j : Nat} {a : Sl} (h : i ≠ j) : (ρ.set i a)[j]? = ρ[j]? := by rw [List.getElem?_set, if_neg h]
theorem one_filt {α : Type} {P : α → Prop} {i : Nat} {ks : List Nat} (hik : i ∉ ks) {tt : TTD} {te : TD} {g f : α → D} {pr : α → Bool} {ρ : Rho}
    (hp : ∀ (a : α) (ρ1 : Rho) (Q : Bool → Rho → Prop), P a → ρ1[i]? = some (.dat (g a)) → (∀ j, i ≠ j → ρ1[j]? = ρ[j]?) → Q (pr a) ρ1 → tt ρ1 Q)
    (ht : ∀ (a : α) (ρ1 : Rho) (Q : R → Rho → Prop), P a → ρ1[i]? = some (.dat (g a)) → (∀ j, i ≠ j → ρ1[j]? = ρ[j]?) → Q (.dat (f a)) ρ1 → te ρ1 Q)
    (hi : ρ[i]? = some .no) {QI : List D → Rho → Prop} : ∀ (xs : List α) (acc : List D), (∀ a ∈ xs, P a) → acc.length + xs.length ≤ 100000 → QI (acc ++ (xs.filter pr).map f) ρ →
    compL ks (hName ks i) tt te [i] (xs.map g) acc ρ QI
  | [], acc, _, _, q => by
    rw [List.filter_nil, List.map_nil, List.append_nil] at q
    exact q
  | a :: xs, acc, hP, h, q => by
    have ha := hP a List.mem_cons_self
    have hx : ∀ b ∈ xs, P b := fun b hb => hP b (List.mem_cons_of_mem _ hb)
    have hn : ∀ j, i ≠ j → (ρ.set i (.dat (g a)))[j]? = ρ[j]? := fun j hj => set_ne' hj
    rw [List.length_cons] at h
    rw [List.filter_cons] at q
    rw [List.map_cons, compL_cons, e_hName, if_neg hik]
    walk_at "dl"
    refine hp a _ _ ha (set_at' hi) hn ?_
    walk_at "dl"
    cases hc : pr a with
    | true =>
      rw [hc, if_pos rfl] at q
      rw [if_pos rfl]
      refine ht a _ _ ha (set_at' hi) hn ?_
      walk_at "dl"
      refine ⟨by omega, ?_⟩
      rw [set1_back hi]
      refine one_filt hik hp ht hi xs _ hx (by rw [List.length_append, List.length_singleton]; omega) ?_
      rw [List.append_assoc]
      exact q
    | false =>
      rw [hc, if_neg (by decide)] at q
      rw [if_neg (by decide)]
      rw [set1_back hi]
      exact one_filt hik hp ht hi xs acc hx (by omega) q
theorem one_comp {α : Type} {P : α → Prop} {i : Nat} {ks : List Nat} (hik : i ∉ ks) {te : TD} {g f : α → D} {ρ : Rho}
    (ht : ∀ (a : α) (ρ1 : Rho) (Q : R → Rho → Prop), P a → ρ1[i]? = some (.dat (g a)) → (∀ j, i ≠ j → ρ1[j]? = ρ[j]?) → Q (.dat (f a)) ρ1 → te ρ1 Q)
    (hi : ρ[i]? = some .no) {QI : List D → Rho → Prop} (xs : List α) (acc : List D) (hP : ∀ a ∈ xs, P a) (hl : acc.length + xs.length ≤ 100000) (q : QI (acc ++ xs.map f) ρ) :
    compL ks (hName ks i) wYes te [i] (xs.map g) acc ρ QI :=
  one_filt hik (pr := fun _ => true) (fun a ρ Q _ _ _ q => q) ht hi xs acc hP hl (by rw [List.filter_eq_self.mpr (fun _ _ => rfl)]; exact q)
theorem var_rd {i : Nat} {ρ : Rho} {d : D} {Q : R → Rho → Prop} (h : ρ[i]? = some (.dat d)) (q : Q (.dat d) ρ) : wVar i ρ Q := by rw [e_var, h]; exact q

theorem intsD_map : ∀ l : List Int, intsD (l.map .int) = some l
  | [] => rfl
  | i :: l => by
    rw [List.map_cons]
    show (intsD (l.map .int)).map (i :: ·) = _
    rw [intsD_map l]; rfl
theorem strsD_map : ∀ l : List Str, strsD (l.map .str) = some l
  | [] => rfl
  | i :: l => by
    rw [List.map_cons]
    show (strsD (l.map .str)).map (i :: ·) = _
    rw [strsD_map l]; rfl
theorem pyDs_ints : ∀ l : List Int, pyDs (l.map .int) = some (l.map fun i => PyData.int i)
  | [] => rfl
  | i :: l => by
    rw [List.map_cons]
    unfold pyDs
    rw [pyDs_ints l]
    rfl
theorem can_ints : ∀ l : List Int, PyData.canLayAll0 (l.map fun i => PyData.int i) = true
  | [] => rfl
  | i :: l => by
    rw [List.map_cons]
    unfold PyData.canLayAll0
    rw [can_ints l]
    rfl
theorem any_ints (n : Int) (l : List Int) : ((l.map fun i => PyData.int i).any fun e => PyData.eqv e (.int n)) = decide (n ∈ l) := by
  induction l with
  | nil => rfl
  | cons i l ih =>
    rw [List.map_cons, List.any_cons, ih]
    show ((i == n) || _) = _
    by_cases h : i = n
    · subst h; simp
    · rw [beq_eq_false_iff_ne.mpr h, Bool.false_or]
      by_cases h2 : n ∈ l
      · simp [h2]
      · have : n ∉ i :: l := fun z => by
          rcases List.mem_cons.mp z with e | e
          · exact h e.symm
          · exact h2 e
        rw [decide_eq_false h2, decide_eq_false this]
theorem in_ints (n : Int) (l : List Int) : gIn false (.int n) (.lst (l.map .int)) = some (.d (.bl (decide (n ∈ l)))) := by
  unfold gIn inB
  have e0 : seqD (.lst (l.map .int)) = some (l.map .int) := rfl
  have e1 : pyD (.int n) = some (.int n) := rfl
  rw [e0, e1, Option.bind_some, Option.bind_some, pyDs_ints, Option.bind_some, if_pos ⟨rfl, by simp [PyData.depth], can_ints l⟩, any_ints]
  show some (Z.d (.bl (false != _))) = _
  rw [bne_f]
def boolT (c : Bool) : Str := Str.ofString (if c then "True" else "False")
theorem repr_bl (c : Bool) : gRepr [.bl c] = some (.d (.str (boolT c))) := by cases c <;> rfl
theorem boolT_ok (c : Bool) : PyData.strOk (boolT c) = true := by cases c <;> decide +kernel
theorem eqA_same {x : Str} : gEqA true (.str x) (.str x) = some (.d (.bl false)) := by
  have := eqA_eq (neg := true) (eqB_str (x := x) (y := x))
  rw [this]
  simp

/-! ### texts of data -/
structure Tx (d : D) (n m : Nat) : Prop where
  ex : ∃ p, pyR d = some p ∧ p.showable = true ∧ p.depth ≤ n ∧ p.shown.length ≤ m
structure Txs (l : List D) (n m : Nat) : Prop where
  ex : ∃ ps, pyRs l = some ps ∧ PyData.showableAll ps = true ∧ PyData.depthAll ps ≤ n ∧ piled (PyData.shownAll ps) ≤ m
end DL

set_option Elab.async false
set_option maxRecDepth 100000
set_option maxHeartbeats 4000000
/-! DS: texts of data, of any numbers that are shown. -/
namespace DL
open PySem PySem.Spec PyProof.Rows L2
theorem pls_cons {d : D} {l : List D} : Pls (d :: l) = (Pl d ∧ Pls l) := by rw [Pls]
theorem pls_nil : Pls [] = True := by rw [Pls]
theorem pl_tup {l : List D} : Pl (.tup l) = Pls l := by rw [Pl]
theorem pl_lst {l : List D} : Pl (.lst l) = Pls l := by rw [Pl]
theorem pl_str {x : Str} : Pl (.str x) = (PyData.strOk x = true ∧ x.length ≤ 100) := by rw [Pl]
theorem pl_int {i : Int} : Pl (.int i) = (0 ≤ i ∧ i ≤ 9) := by rw [Pl]
theorem pl_non : Pl .non = True := by rw [Pl]
theorem pl_bl {c : Bool} : Pl (.bl c) = True := by rw [Pl]
theorem pl_dct : Pl (.dct []) = True := by rw [Pl]
theorem tl_tup {l : List D} : tl (.tup l) = 3 + tls l := rfl
theorem tl_lst {l : List D} : tl (.lst l) = 3 + tls l := rfl
theorem tl_str {x : Str} : tl (.str x) = 10 * x.length + 2 := rfl
theorem Tx.mono {d : D} {n m n' m' : Nat} (h : Tx d n m) (h1 : n ≤ n') (h2 : m ≤ m') : Tx d n' m' := by
  obtain ⟨p, a1, a2, a3, a4⟩ := h.ex
  exact ⟨p, a1, a2, by omega, by omega⟩
theorem Txs.mono {l : List D} {n m n' m' : Nat} (h : Txs l n m) (h1 : n ≤ n') (h2 : m ≤ m') : Txs l n' m' := by
  obtain ⟨p, a1, a2, a3, a4⟩ := h.ex
  exact ⟨p, a1, a2, by omega, by omega⟩
theorem tx_int {i : Int} (h : i.natAbs.log2 < 1920) : Tx (.int i) 0 1921 := ⟨_, rfl, decide_eq_true h, Nat.le_refl _, int_text_len_1921 h⟩
theorem tx_pl {d : D} (h : Pl d) : Tx d (dp d) (tl d) := by
  obtain ⟨p, a1, a2, a3, a4⟩ := pl_text d h
  exact ⟨p, a1, a2, by omega, a4⟩
theorem tx_non : Tx .non 0 5 := ⟨_, rfl, rfl, Nat.le_refl _, by decide⟩
theorem tx_bl {c : Bool} : Tx (.bl c) 0 5 := ⟨_, rfl, rfl, Nat.le_refl _, by cases c <;> decide⟩
theorem txs_nil : Txs [] 0 0 := ⟨[], rfl, rfl, Nat.le_refl _, Nat.le_refl _⟩
theorem txs_cons {d : D} {l : List D} {n m n' m' k : Nat} (h : Tx d n m) (t : Txs l n' m') (h1 : n ≤ k) (h2 : n' ≤ k) : Txs (d :: l) k (m + 2 + m') := by
  obtain ⟨p, a1, a2, a3, a4⟩ := h.ex
  obtain ⟨ps, b1, b2, b3, b4⟩ := t.ex
  refine ⟨p :: ps, by unfold pyRs; rw [a1, b1]; rfl, by unfold PyData.showableAll; rw [a2, b2]; rfl, ?_, ?_⟩
  · show max p.depth (PyData.depthAll ps) ≤ k
    omega
  · show piled (p.shown :: PyData.shownAll ps) ≤ _
    rw [piled_cons]
    omega
theorem tx_tup {l : List D} {n m : Nat} (h : Txs l n m) : Tx (.tup l) (n + 1) (m + 3) := by
  obtain ⟨ps, b1, b2, b3, b4⟩ := h.ex
  refine ⟨.tuple ps, by unfold pyR; rw [b1]; rfl, by unfold PyData.showable; exact b2, ?_, ?_⟩
  · show PyData.depthAll ps + 1 ≤ _
    omega
  · have := tupleText_le (PyData.shownAll ps)
    show (tupleText (PyData.shownAll ps)).length ≤ _
    omega
theorem tx_lst {l : List D} {n m : Nat} (h : Txs l n m) : Tx (.lst l) (n + 1) (m + 3) := by
  obtain ⟨ps, b1, b2, b3, b4⟩ := h.ex
  refine ⟨.list ps, by unfold pyR; rw [b1]; rfl, by unfold PyData.showable; exact b2, ?_, ?_⟩
  · show PyData.depthAll ps + 1 ≤ _
    omega
  · have := listText_le (PyData.shownAll ps)
    show (listText (PyData.shownAll ps)).length ≤ _
    omega
theorem tx_all {P : D → Prop} {n m : Nat} (h : ∀ d, P d → Tx d n m) : ∀ l : List D, (∀ d ∈ l, P d) → Txs l n (l.length * (m + 2))
  | [], _ => txs_nil.mono (Nat.zero_le _) (Nat.zero_le _)
  | d :: l, hp => (txs_cons (h d (hp d List.mem_cons_self)) (tx_all h l fun x hx => hp x (List.mem_cons_of_mem _ hx)) (Nat.le_refl _) (Nat.le_refl _)).mono (Nat.le_refl _) (by rw [List.length_cons, Nat.succ_mul]; omega)
theorem tx_repr {d : D} {n m : Nat} (h : Tx d n m) (h1 : n ≤ 60) (h2 : m ≤ 16777216) : ∃ x, gRepr [d] = some (.d (.str x)) := by
  obtain ⟨p, a1, a2, a3, a4⟩ := h.ex
  refine ⟨p.shown, ?_⟩
  unfold gRepr textD
  dsimp only
  rw [a1]
  show Option.map _ (if p.showable = true ∧ p.depth ≤ 60 ∧ p.shown.length ≤ sizeLine then some p.shown else none) = _
  rw [if_pos ⟨a2, by omega, by rw [sizeLine_eq]; omega⟩]
  rfl
end DL

set_option Elab.async false
set_option maxRecDepth 100000
set_option maxHeartbeats 4000000
/-! DQ: layouts made; factors without zeros at the end. -/
namespace DL
open PySem PySem.Spec PyProof.Rows L2
local macro_rules | `(tactic| walk_at "dl") => `(tactic| simp (config := {decide := false}) only [e_fld, k_fl1, k_fl2, k_fl3, insD_i, e_setF, k_sf1, k_sf2, q_sf, e_make, k_mk1, k_mk2, k_mk3, e_never, e_callRR, k_rr1, k_rr2, k_rr3, k_rr4, e_itEA, k_ea1, k_ea2, e_itT2, k_i1, k_i2, e_m1, k_m1, k_m1b, k_m2, k_m3, k_m4, e_itZ, k_z1, e_scLen, k_sc, k_scQ, compT_nil, compT_cons, k_t1, k_t2, k_t2b, k_t3, e_chain, k_ch, k_ch0, k_ch1, k_ch2, k_ch3, k_ch4, k_ch5, k_ch6, rev_l, rev_f, rev_t, clear_l, lista_s, max_2, min_2, inA_s, ix_s, mulA_si, seqE_nx, seqE_rt, seqE_bk, seqE_ct, loopE_nx, loopE_rt, loopE_bk, loopE_ct, e_seq, e_next, e_break, e_cont, e_retN, e_var, q_var_d, q_var_o, e_c, con_d, con_o, con_b, conS_d, conS_o, own_l, own_d, own_i, z_d, z_n, z_t, z_w, sl_d, sl_o, frz_d, frz_o, frz_b, q_frz_d, q_frz_o, frzs_nil, frzs_cons, k_fzs, k_fz, thin_d, thin_o, thin_b, k_th, thins_nil, thins_cons, k_ths, k_ts, setR_nil, setR_cons, k_e, e_op, k_op1, k_op2, k_op3, k_op4, e_un, k_un1, k_un2, e_nil, e_cons, k_co1, k_co2, conL_nil, conL_cons, k_cl, k_cl2, e_b, k_b1, k_b2, e_tup, k_tup1, k_tup2, e_lst, k_lst1, k_lst2, e_dct0, k_ret, e_call, k_ca1, k_ca2, k_retR, e_callR, k_cr1, k_cr2, k_cr3, e_tr, k_tr1, k_tr2, k_tr3, e_bl, k_bl, e_and, k_and, e_or, k_or, e_not, k_not, e_if, k_if, e_ifS, k_ifS, e_notV, k_nv1, k_nv2, e_andV, k_av1, k_av2, e_orV, k_ov1, k_ov2, bD_bl, e_sl, k_sl1, k_sl2, k_sl3, k_sl4, e_part, k_pt1, k_pt2, e_noP, e_dget, k_ge1, k_ge1b, k_ge2, k_ge3, k_ge4, dctD_d, keyD_i, keyD_s, e_mut, q_mu0, k_mu1, k_mu2, q_mu3, k_mu4, e_put, k_pu1, k_pu2, k_pu3, k_pu4, q_pu4, k_pu5, e_aug, q_au0, k_au1, k_au2, k_au3, e_asg, k_as1, k_as2, e_par, k_pa1, k_pa2, e_unp, k_up1, k_up2, e_hName, e_hNil, e_hCons, k_hc, e_hTup, e_hWt, e_drop, k_dr, e_ret, k_rt_d, k_rt_o, k_rt_b, q_out_o, q_out_d, forL_nil, forL_cons, k_fo2, e_for, k_fo1, k_wh, e_itS, k_it1, k_it2, k_it3, walk_l, walk_f, walk_t, e_itR1, k_r11, k_r12, e_itR2, k_r21, k_r22, e_itE, k_en1, k_en2, k_en3, list_l, list_f, e_lc, k_lc, k_lcQ, compL_nil, compL_cons, k_c1, k_c2, k_c3, k_c4, e_yes, wip_nil, wip_cons, unw_nil, unw_cons, g_int, f_add, f_sub, f_mul, f_div, f_mod, f_pow, f_lt, f_le, f_gt, f_ge, add_i, add_s, add_l, add_t, mul_i, mul_l, mul_t, neg_i, ix_l, ix_t, sl_l, sl_f, sl_t, len_l, len_f, len_t, len_s, abs_i, int_i, lof_l, lof_f, lof_t, tof_l, tof_f, tof_t, dof_t, app_l, ext_t, ext_l, tru_b, tru_i, tru_l, tru_t, tru_n, augN, subN, is_bl, is_non, ixN4_0, ixN4_1, ixN4_2, ixN4_3, lk_some, lk_ite, lk_map, lk_bind, ixOf, endsF_nx, endsF_dat, endsF_own, atI_0, atI_1, atI_2, atI_3, eqA_l0, eqA_tup0, eqA_int, eqA_non, bne_f, bne_t, sizeLine_eq,
  List.cons_append, List.nil_append, List.getElem?_cons_zero, List.getElem?_cons_succ, List.set_cons_zero, List.set_cons_succ, List.length_cons, List.length_nil, List.replicate, List.take_succ_cons, List.take_zero, List.not_mem_nil, List.mem_cons, List.map_cons, List.map_nil, if_false, if_true, Option.map_some, Option.bind_some, Option.getD_some, Nat.reduceAdd, Nat.reduceSub, Nat.reduceLeDiff, Nat.reduceEqDiff, Nat.succ_ne_zero, Nat.zero_ne_one, Nat.one_ne_zero, List.isEmpty_nil, List.isEmpty_cons, List.length_map, List.isEmpty_map, beq_iff_eq, Bool.not_eq_true, reduceCtorEq, or_false, or_true, false_or, true_or, and_true, true_and, List.cons.injEq, Option.some.injEq, Sl.own.injEq, Own.lst.injEq, exists_eq', not_false_eq_true, forall_const, forall_eq, forall_eq_or_imp, decide_eq_true_eq, Bool.not_true, Bool.not_false, Bool.false_eq_true, ite_self])

/-- without zeros at the end -/
def trimR : List Int → List Int
  | [] => []
  | i :: l => if i = 0 then trimR l else i :: l
def trimZ (l : List Int) : List Int := (trimR l.reverse).reverse
theorem trimZ_nil : trimZ [] = [] := rfl
theorem trimZ_zero (l : List Int) : trimZ (l ++ [0]) = trimZ l := by
  unfold trimZ
  rw [List.reverse_append]
  show (trimR (0 :: l.reverse)).reverse = _
  unfold trimR
  rw [if_pos rfl]
  cases l.reverse <;> rfl
theorem trimZ_last {l : List Int} {i : Int} (h : i ≠ 0) : trimZ (l ++ [i]) = l ++ [i] := by
  unfold trimZ
  rw [List.reverse_append]
  show (trimR (i :: l.reverse)).reverse = _
  unfold trimR
  rw [if_neg h, List.reverse_cons, List.reverse_reverse]
theorem trimZ_len (l : List Int) : (trimZ l).length ≤ l.length := by
  unfold trimZ
  rw [List.length_reverse]
  have : ∀ m : List Int, (trimR m).length ≤ m.length := fun m => by
    induction m with
    | nil => exact Nat.le_refl _
    | cons i m ih =>
      unfold trimR
      split
      · rw [List.length_cons]; omega
      · exact Nat.le_refl _
  have h := this l.reverse
  rw [List.length_reverse] at h
  exact h
theorem trimZ_mem {l : List Int} {i : Int} (h : i ∈ trimZ l) : i ∈ l := by
  unfold trimZ at h
  have : ∀ m : List Int, i ∈ trimR m → i ∈ m := fun m => by
    induction m with
    | nil => exact fun h => h
    | cons j m ih =>
      unfold trimR
      split
      · exact fun h => List.mem_cons_of_mem _ (ih h)
      · exact fun h => h
  exact List.mem_reverse.mp (this _ (List.mem_reverse.mp h))
/-- a list or a tuple of ints -/
def IntsOf (d : D) (l : List Int) : Prop := d = .lst (l.map .int) ∨ d = .tup (l.map .int)
def rd_trimmed (ks : List Nat) : SD :=
  (wSeq (wAsg ks 1 (wB gListOf (wCons (wVar 0) wNil)))
  (wSeq (wWhile (wAnd (wBl (wOp (gEqA true) (wVar 1) (wLst ks wNil))) (wBl (wOp (gEqA false) (wOp gIx (wVar 1) (wUn gNeg (wC (.int 1)))) (wC (.int 0))))) (wDrop (wMut ks 1 gPop wNil)))
  (wRet ks (wB gTupOf (wCons (wVar 1) wNil)))))
def sp_trimmed : DSp := fun args Q _ => ∃ (d : D) (l : List Int), args = [.dat d] ∧ IntsOf d l ∧ l.length < 100000 ∧ Q (.dat (.tup ((trimZ l).map .int))) [.dat d]
abbrev trBody : SD := (wDrop (wMut [] 1 gPop wNil))
theorem atI_end {l : List D} {d : D} : atI (l ++ [d]) (-1) = some d := by
  unfold atI ixN
  rw [if_neg (by decide), if_pos (by simp; omega), Option.bind_some]
  have e : (-1 + (((l ++ [d]).length : Nat) : Int)).toNat = l.length := by simp; omega
  rw [e, List.getElem?_append_right (Nat.le_refl _), Nat.sub_self]
  rfl
theorem tr_while {s0 : Sl} {DD : EndsD} : ∀ (m : Nat) (l : List Int), l.length ≤ m → DD.nx [s0, .own (.lst ((trimZ l).map .int))] →
    whileN (wAnd (wBl (wOp (gEqA true) (wVar 1) (wLst [] wNil))) (wBl (wOp (gEqA false) (wOp gIx (wVar 1) (wUn gNeg (wC (.int 1)))) (wC (.int 0))))) trBody DD (m + 1) [s0, .own (.lst (l.map .int))]
  | m, l, hm, q => by
    rw [whileN_succ]
    rcases List.eq_nil_or_concat l with rfl | ⟨l, i, rfl⟩
    · walk_at "dl"
      exact q
    · rw [List.concat_eq_append] at *
      have e : (l ++ [i]).map D.int = l.map D.int ++ [.int i] := by rw [List.map_append]; rfl
      have e0 : (l.map D.int ++ [D.int i]).isEmpty = false := by cases l <;> rfl
      rw [e]
      walk_at "dl"
      rw [e0]
      walk_at "dl"
      rw [lk_eq atI_end]
      walk_at "dl"
      by_cases hi : i = 0
      · subst hi
        rw [if_pos rfl]
        try walk_at "dl"
        rw [lk_eq pop_ok]
        walk_at "dl"
        rw [trimZ_zero] at q
        rw [List.length_append, List.length_singleton] at hm
        cases m with
        | zero => omega
        | succ m => exact tr_while m l (by omega) q
      · rw [if_neg hi]
        rw [trimZ_last hi, e] at q
        exact q
theorem pl_trimmed : PL 2 1 rd_trimmed sp_trimmed := fun args QD ED h => by
  obtain ⟨d, l, rfl, hd, hl, h⟩ := h
  refine ⟨rfl, ?_⟩
  unfold rd_trimmed
  rcases hd with rfl | rfl
  all_goals
    walk_at "dl"
    refine ⟨l.length + 1, tr_while l.length l (Nat.le_refl _) ?_⟩
    walk_at "dl"
    exact h
abbrev fF : Str := "factors"
abbrev fD : Str := "degree"
abbrev fK : Str := "key"
theorem put_1 {d : D} : putD fF d [] = [(fF, d)] := rfl
theorem put_2 {d e : D} : putD fD d [(fF, e)] = [(fF, e), (fD, d)] := rfl
theorem put_3 {d e c : D} : putD fK d [(fF, e), (fD, c)] = [(fF, e), (fD, c), (fK, d)] := rfl
theorem look_1 {d : D} {r : List (Str × D)} : List.lookup fF ((fF, d) :: r) = some d := rfl
theorem look_2 {d e : D} {r : List (Str × D)} : List.lookup fD ((fF, e) :: (fD, d) :: r) = some d := rfl
theorem look_3 {d e c : D} {r : List (Str × D)} : List.lookup fK ((fF, e) :: (fD, d) :: (fK, c) :: r) = some c := rfl
/-- a layout -/
def layF (t : List Int) : List (Str × D) := [(fF, .tup (t.map .int)), (fD, .int ((t.length : Int) - 1)), (fK, .tup [.int ((t.length : Int) - 1), .tup ((t.map D.int).reverse)])]
def layD (LC : Addr) (t : List Int) : D := .ins LC (layF t)
structure FsOk (l : List Int) : Prop where
  len : (trimZ l).length ≤ 41
  len2 : l.length ≤ 1000
  nn : ∀ i ∈ l, 0 ≤ i
def rd_Layout___init__ (ks : List Nat) (LC : Addr) (sp_trimmed : DSp) (sp_is_integer : DSp) : SD :=
  (wSeq (wIfS (wOr (wNot (wTr (wUn (gIsiT "list" "tuple") (wVar 1)))) (wNot (wTr (wB gAll (wCons (wLc ks (wItS ks (wVar 1)) (hName ks 2) wYes (wAndV (wCall ks sp_is_integer (wCons (wVar 2) wNil)) (wOp (gInt fGe) (wVar 2) (wC (.int 0)))) [2]) wNil))))) wNever wNext)
  (wSeq (wSetF ks 0 LC "factors" (wCall ks sp_trimmed (wCons (wVar 1) wNil)))
  (wSeq (wSetF ks 0 LC "degree" (wOp (gInt fSub) (wB gLen (wCons (wFld LC "factors" (wVar 0)) wNil)) (wC (.int 1))))
  (wSeq (wIfS (wBl (wOp (gInt fGt) (wFld LC "degree" (wVar 0)) (wC (.int 40)))) wNever wNext)
  (wSetF ks 0 LC "key" (wTup ks (wCons (wFld LC "degree" (wVar 0)) (wCons (wUn gRev (wFld LC "factors" (wVar 0))) wNil))))))))
def sp_Layout___init__ (LC : Addr) : DSp := fun args Q _ => ∃ (d : D) (l : List Int), args = [.own (.ins LC []), .dat d] ∧ IntsOf d l ∧ FsOk l ∧ Q (.dat .non) [.own (.ins LC (layF (trimZ l))), .dat d]
theorem pl_Layout___init__ (LC : Addr) : PL 3 2 (fun ks => rd_Layout___init__ ks LC sp_trimmed sp_is_integer) (sp_Layout___init__ LC) := fun args QD ED h => by
  obtain ⟨d, l, rfl, hd, hl, h⟩ := h
  refine ⟨rfl, ?_⟩
  unfold rd_Layout___init__
  have hty : gIsiT "list" "tuple" d = some (.d (.bl true)) := by rcases hd with rfl | rfl <;> rfl
  have hwd : walkD d = some (l.map .int) := by rcases hd with rfl | rfl <;> rfl
  walk_at "dl"
  rw [lk_eq hty]
  walk_at "dl"
  rw [lk_eq hwd]
  walk_at "dl"
  refine ⟨fun o z => (by cases z), ?_⟩
  refine one_comp (i := 2) (P := fun i => 0 ≤ i) (by decide) (f := fun _ => .bl true) (fun i ρ Q hi hρ _ q => ?_) rfl l [] hl.nn (by have := hl.len2; simp; omega) ?_
  · walk_at "dl"
    rw [hρ]
    walk_at "dl"
    refine ⟨.int i, rfl, ⟨_, rfl⟩, ?_⟩
    walk_at "dl"
    rw [if_pos (by rfl), hρ]
    walk_at "dl"
    rw [decide_eq_true hi]
    exact q
  · walk_at "dl"
    rw [lk_eq (all_map (fun _ => true) l)]
    walk_at "dl"
    have ea : l.all (fun _ => true) = true := List.all_eq_true.mpr fun _ _ => rfl
    rw [ea]
    rw [if_neg (by decide)]
    refine ⟨d, l, rfl, hd, by have := hl.len2; omega, ?_⟩
    walk_at "dl"
    rw [put_1]
    refine ⟨by decide, ?_⟩
    rw [lk_eq look_1]
    walk_at "dl"
    rw [put_2]
    refine ⟨by decide, ?_⟩
    rw [lk_eq look_2]
    walk_at "dl"
    rw [if_neg (by have := hl.len; omega), lk_eq look_2]
    walk_at "dl"
    rw [lk_eq look_1]
    walk_at "dl"
    rw [put_3]
    refine ⟨by decide, ?_⟩
    exact h
end DL

set_option Elab.async false
set_option maxRecDepth 100000
set_option maxHeartbeats 4000000
/-! DR: records, by the program and by the law. -/
namespace DL
open PySem PySem.Spec PyProof.Rows L2
local macro_rules | `(tactic| walk_at "dl") => `(tactic| simp (config := {decide := false}) only [e_fld, k_fl1, k_fl2, k_fl3, insD_i, e_setF, k_sf1, k_sf2, q_sf, e_make, k_mk1, k_mk2, k_mk3, e_never, e_callRR, k_rr1, k_rr2, k_rr3, k_rr4, e_itEA, k_ea1, k_ea2, e_itT2, k_i1, k_i2, e_m1, k_m1, k_m1b, k_m2, k_m3, k_m4, e_itZ, k_z1, e_scLen, k_sc, k_scQ, compT_nil, compT_cons, k_t1, k_t2, k_t2b, k_t3, e_chain, k_ch, k_ch0, k_ch1, k_ch2, k_ch3, k_ch4, k_ch5, k_ch6, rev_l, rev_f, rev_t, clear_l, lista_s, max_2, min_2, inA_s, ix_s, mulA_si, seqE_nx, seqE_rt, seqE_bk, seqE_ct, loopE_nx, loopE_rt, loopE_bk, loopE_ct, e_seq, e_next, e_break, e_cont, e_retN, e_var, q_var_d, q_var_o, e_c, con_d, con_o, con_b, conS_d, conS_o, own_l, own_d, own_i, z_d, z_n, z_t, z_w, sl_d, sl_o, frz_d, frz_o, frz_b, q_frz_d, q_frz_o, frzs_nil, frzs_cons, k_fzs, k_fz, thin_d, thin_o, thin_b, k_th, thins_nil, thins_cons, k_ths, k_ts, setR_nil, setR_cons, k_e, e_op, k_op1, k_op2, k_op3, k_op4, e_un, k_un1, k_un2, e_nil, e_cons, k_co1, k_co2, conL_nil, conL_cons, k_cl, k_cl2, e_b, k_b1, k_b2, e_tup, k_tup1, k_tup2, e_lst, k_lst1, k_lst2, e_dct0, k_ret, e_call, k_ca1, k_ca2, k_retR, e_callR, k_cr1, k_cr2, k_cr3, e_tr, k_tr1, k_tr2, k_tr3, e_bl, k_bl, e_and, k_and, e_or, k_or, e_not, k_not, e_if, k_if, e_ifS, k_ifS, e_notV, k_nv1, k_nv2, e_andV, k_av1, k_av2, e_orV, k_ov1, k_ov2, bD_bl, e_sl, k_sl1, k_sl2, k_sl3, k_sl4, e_part, k_pt1, k_pt2, e_noP, e_dget, k_ge1, k_ge1b, k_ge2, k_ge3, k_ge4, dctD_d, keyD_i, keyD_s, e_mut, q_mu0, k_mu1, k_mu2, q_mu3, k_mu4, e_put, k_pu1, k_pu2, k_pu3, k_pu4, q_pu4, k_pu5, e_aug, q_au0, k_au1, k_au2, k_au3, e_asg, k_as1, k_as2, e_par, k_pa1, k_pa2, e_unp, k_up1, k_up2, e_hName, e_hNil, e_hCons, k_hc, e_hTup, e_hWt, e_drop, k_dr, e_ret, k_rt_d, k_rt_o, k_rt_b, q_out_o, q_out_d, forL_nil, forL_cons, k_fo2, e_for, k_fo1, k_wh, e_itS, k_it1, k_it2, k_it3, walk_l, walk_f, walk_t, e_itR1, k_r11, k_r12, e_itR2, k_r21, k_r22, e_itE, k_en1, k_en2, k_en3, list_l, list_f, e_lc, k_lc, k_lcQ, compL_nil, compL_cons, k_c1, k_c2, k_c3, k_c4, e_yes, wip_nil, wip_cons, unw_nil, unw_cons, g_int, f_add, f_sub, f_mul, f_div, f_mod, f_pow, f_lt, f_le, f_gt, f_ge, add_i, add_s, add_l, add_t, mul_i, mul_l, mul_t, neg_i, ix_l, ix_t, sl_l, sl_f, sl_t, len_l, len_f, len_t, len_s, abs_i, int_i, lof_l, lof_f, lof_t, tof_l, tof_f, tof_t, dof_t, app_l, ext_t, ext_l, tru_b, tru_i, tru_l, tru_t, tru_n, augN, subN, is_bl, is_non, ixN4_0, ixN4_1, ixN4_2, ixN4_3, lk_some, lk_ite, lk_map, lk_bind, ixOf, endsF_nx, endsF_dat, endsF_own, atI_0, atI_1, atI_2, atI_3, eqA_l0, eqA_tup0, eqA_int, eqA_non, bne_f, bne_t, sizeLine_eq,
  List.cons_append, List.nil_append, List.getElem?_cons_zero, List.getElem?_cons_succ, List.set_cons_zero, List.set_cons_succ, List.length_cons, List.length_nil, List.replicate, List.take_succ_cons, List.take_zero, List.not_mem_nil, List.mem_cons, List.map_cons, List.map_nil, if_false, if_true, Option.map_some, Option.bind_some, Option.getD_some, Nat.reduceAdd, Nat.reduceSub, Nat.reduceLeDiff, Nat.reduceEqDiff, Nat.succ_ne_zero, Nat.zero_ne_one, Nat.one_ne_zero, List.isEmpty_nil, List.isEmpty_cons, List.length_map, List.isEmpty_map, beq_iff_eq, Bool.not_eq_true, reduceCtorEq, or_false, or_true, false_or, true_or, and_true, true_and, List.cons.injEq, Option.some.injEq, Sl.own.injEq, Own.lst.injEq, exists_eq', not_false_eq_true, forall_const, forall_eq, forall_eq_or_imp, decide_eq_true_eq, Bool.not_true, Bool.not_false, Bool.false_eq_true, ite_self])

def facAt (l : List Int) (i : Int) : Int := if 0 ≤ i then (l[i.toNat]?).getD 0 else 0
theorem trim_at (l : List Int) (n : Nat) : ((trimZ l)[n]?).getD 0 = (l[n]?).getD 0 := by
  have key : ∀ (m : Nat) (l : List Int), l.length = m → ((trimZ l)[n]?).getD 0 = (l[n]?).getD 0 := by
    intro m
    induction m with
    | zero =>
      intro l h
      cases l with
      | nil => rfl
      | cons i l => cases h
    | succ m ih =>
      intro l h
      rcases List.eq_nil_or_concat l with rfl | ⟨l, i, rfl⟩
      · cases h
      · rw [List.concat_eq_append] at *
        by_cases hi : i = 0
        · subst hi
          rw [trimZ_zero, ih l (by simpa using h)]
          by_cases hn : n < l.length
          · rw [List.getElem?_append_left hn]
          · rw [List.getElem?_eq_none (by omega), List.getElem?_append_right (by omega)]
            cases q : n - l.length with
            | zero => rfl
            | succ k => rfl
        · rw [trimZ_last hi]
  exact key _ l rfl
theorem facAt_trim (l : List Int) (i : Int) : facAt (trimZ l) i = facAt l i := by
  unfold facAt
  rw [trim_at]
theorem facAt_in {l : List Int} {i : Int} (h0 : 0 ≤ i) (h1 : i < (l.length : Int)) : ∃ v, v ∈ l ∧ atI (l.map D.int) i = some (.int v) ∧ facAt l i = v := by
  obtain ⟨v, hv, e, e2⟩ := atI_mem (l := l) h0 h1
  refine ⟨v, hv, ?_, by unfold facAt; rw [if_pos h0, e2]; rfl⟩
  unfold atI at e ⊢
  rw [List.length_map]
  cases q : ixN l.length i with
  | none => rw [q] at e; cases e
  | some j =>
    rw [q] at e
    show (l.map D.int)[j]? = _
    rw [List.getElem?_map, show l[j]? = some v from e]
    rfl
theorem facAt_out {l : List Int} {i : Int} (h : ¬ (0 ≤ i ∧ i < (l.length : Int))) : facAt l i = 0 := by
  unfold facAt
  by_cases h0 : 0 ≤ i
  · rw [if_pos h0, List.getElem?_eq_none (by omega)]; rfl
  · rw [if_neg h0]
def rd_factor_at (ks : List Nat) : SD :=
  (wRet ks (wIf (wBl (wChain (gInt fLe) (gInt fLt) (wC (.int 0)) (wVar 1) (wB gLen (wCons (wVar 0) wNil)))) (wOp gIx (wVar 0) (wVar 1)) (wC (.int 0))))
def sp_factor_at : DSp := fun args Q _ => ∃ (l : List Int) (i : Int), args = [.dat (.tup (l.map .int)), .dat (.int i)] ∧ Q (.dat (.int (facAt l i))) [.dat (.tup (l.map .int)), .dat (.int i)]
theorem pl_factor_at : PL 2 2 rd_factor_at sp_factor_at := fun args QD ED h => by
  obtain ⟨l, i, rfl, h⟩ := h
  refine ⟨rfl, ?_⟩
  unfold rd_factor_at
  walk_at "dl"
  by_cases h0 : 0 ≤ i
  · rw [if_pos h0]
    by_cases h1 : i < (l.length : Int)
    · rw [if_pos h1]
      obtain ⟨v, _, e, e2⟩ := facAt_in h0 h1
      rw [lk_eq e]
      rw [e2] at h
      exact h
    · rw [if_neg h1]
      rw [facAt_out (by omega)] at h
      exact h
  · rw [if_neg h0]
    rw [facAt_out (by omega)] at h
    exact h
def recB (k : Kind) (l : List Int) : D → Bool
  | .tup [.int i, .int j, .tup ts] => decide (0 ≤ j) && (decide (j < facAt l i) && (decide ((ts.length : Int) = i) && ts.all (isTreeB k)))
  | _ => false
structure TrOk (e : D) : Prop where
  pl : Pl e
  cn : cnt e < 900000
  dp : dp e < 12
structure RecOk (d : D) : Prop where
  ty : TyOk d
  it : ∀ a b c, d = .tup [a, b, c] → TyOk a ∧ TyOk b ∧ TyOk c ∧ ∀ ts, c = .tup ts → ts.length ≤ 50000 ∧ ∀ e ∈ ts, TrOk e
theorem rec_notup {k : Kind} {l : List Int} {d : D} (h : tupB d = false) : recB k l d = false := by cases d <;> first | rfl | cases h
theorem rec_three {k : Kind} {l : List Int} {m : List D} (h : m.length ≠ 3) : recB k l (.tup m) = false := by
  unfold recB
  split
  · rename_i e
    cases e
    exact absurd rfl h
  · rfl
theorem rec_int1 {k : Kind} {l : List Int} {a b c : D} (h : intB a = false) : recB k l (.tup [a, b, c]) = false := by
  cases a <;> first | rfl | cases h
theorem rec_int2 {k : Kind} {l : List Int} {i : Int} {b c : D} (h : intB b = false) : recB k l (.tup [.int i, b, c]) = false := by
  cases b <;> first | rfl | cases h
theorem rec_tup3 {k : Kind} {l : List Int} {i j : Int} {c : D} (h : tupB c = false) : recB k l (.tup [.int i, .int j, c]) = false := by
  cases c <;> first | rfl | cases h
theorem int_is {b : D} (h : intB b = true) : ∃ i, b = .int i := by cases b <;> first | exact ⟨_, rfl⟩ | cases h
def rd_is_record_of (ks : List Nat) (sp_is_tree : DSp) (sp_factor_at : DSp) (sp_is_integer : DSp) : SD :=
  (wSeq (wIfS (wOr (wNot (wTr (wB gIsi (wCons (wVar 2) (wCons (wC (.ty "tuple")) wNil))))) (wOr (wBl (wOp (gEqA true) (wB gLen (wCons (wVar 2) wNil)) (wC (.int 3)))) (wOr (wNot (wTr (wCall ks sp_is_integer (wCons (wOp gIx (wVar 2) (wC (.int 0))) wNil)))) (wNot (wTr (wCall ks sp_is_integer (wCons (wOp gIx (wVar 2) (wC (.int 1))) wNil))))))) (wRet ks (wC (.bl false))) wNext)
  (wSeq (wIfS (wNot (wBl (wChain (gInt fLe) (gInt fLt) (wC (.int 0)) (wOp gIx (wVar 2) (wC (.int 1))) (wCall ks sp_factor_at (wCons (wVar 1) (wCons (wOp gIx (wVar 2) (wC (.int 0))) wNil)))))) (wRet ks (wC (.bl false))) wNext)
  (wSeq (wIfS (wOr (wNot (wTr (wB gIsi (wCons (wOp gIx (wVar 2) (wC (.int 2))) (wCons (wC (.ty "tuple")) wNil))))) (wBl (wOp (gEqA true) (wB gLen (wCons (wOp gIx (wVar 2) (wC (.int 2))) wNil)) (wOp gIx (wVar 2) (wC (.int 0)))))) (wRet ks (wC (.bl false))) wNext)
  (wRet ks (wB gAll (wCons (wLc ks (wItS ks (wOp gIx (wVar 2) (wC (.int 2)))) (hName ks 3) wYes (wCall ks sp_is_tree (wCons (wVar 0) (wCons (wVar 3) wNil))) [3]) wNil))))))
def sp_is_record_of : DSp := fun args Q _ => ∃ (k : Kind) (l : List Int) (d : D), args = [.dat (kindD k), .dat (.tup (l.map .int)), .dat d] ∧ (k.map (·.1)).Nodup ∧ RecOk d ∧ Q (.dat (.bl (recB k l d))) [.dat (kindD k), .dat (.tup (l.map .int)), .dat d]
theorem pl_is_record_of : PL 4 3 (fun ks => rd_is_record_of ks sp_is_tree sp_factor_at sp_is_integer) sp_is_record_of := fun args QD ED h => by
  obtain ⟨k, l, d, rfl, nd, hd, h⟩ := h
  refine ⟨rfl, ?_⟩
  unfold rd_is_record_of
  walk_at "dl"
  rcases tup_orB d with ⟨m, rfl⟩ | hs
  · rw [lk_eq (rfl : gIsi [.tup m, .ty "tuple"] = some (.d (.bl true)))]
    walk_at "dl"
    rw [if_neg (by decide)]
    by_cases h3 : m.length = 3
    · match m, h3, hd, h with
      | [a, b, c], _, hd, h =>
        obtain ⟨ta, tb, tc, hts⟩ := hd.it a b c rfl
        rw [if_neg (fun z => (by cases (show false = true from z)))]
        walk_at "dl"
        refine ⟨a, rfl, ta, ?_⟩
        cases ha : intB a with
        | false =>
          rw [rec_int1 ha] at h
          walk_at "dl"
          exact h
        | true =>
          obtain ⟨i, rfl⟩ := int_is ha
          walk_at "dl"
          refine ⟨b, rfl, tb, ?_⟩
          cases hb : intB b with
          | false =>
            rw [rec_int2 hb] at h
            walk_at "dl"
            exact h
          | true =>
            obtain ⟨j, rfl⟩ := int_is hb
            walk_at "dl"
            have h : QD (.dat (.bl (match c with
              | .tup ts => decide (0 ≤ j) && (decide (j < facAt l i) && (decide ((ts.length : Int) = i) && ts.all (isTreeB k)))
              | _ => false))) [.dat (kindD k), .dat (.tup (l.map .int)), .dat (.tup [.int i, .int j, c])] := by
              cases c <;> exact h
            by_cases h0 : 0 ≤ j
            · rw [if_pos h0]
              refine ⟨l, i, rfl, ?_⟩
              walk_at "dl"
              by_cases h1 : j < facAt l i
              · rw [decide_eq_true h1, if_neg (by decide)]
                rcases tup_orB c with ⟨ts, rfl⟩ | hc
                · obtain ⟨hl, ht⟩ := hts ts rfl
                  rw [lk_eq (rfl : gIsi [.tup ts, .ty "tuple"] = some (.d (.bl true)))]
                  walk_at "dl"
                  rw [if_neg (by decide)]
                  have h2 : QD (.dat (.bl (decide (0 ≤ j) && (decide (j < facAt l i) && (decide ((ts.length : Int) = i) && ts.all (isTreeB k)))))) [.dat (kindD k), .dat (.tup (l.map .int)), .dat (.tup [.int i, .int j, .tup ts])] := h
                  rw [decide_eq_true h0, decide_eq_true h1, Bool.true_and, Bool.true_and] at h2
                  by_cases h4 : (ts.length : Int) = i
                  · rw [decide_eq_true h4, Bool.true_and] at h2
                    rw [if_neg (by simp [h4])]
                    refine ⟨fun o z => (by cases z), ?_⟩
                    refine Eq.mpr (congrArg (fun z => compL _ _ _ _ _ z _ _ _) (List.map_id ts).symm) ?_
                    refine one_comp (i := 3) (P := fun e => TrOk e) (by decide) (f := fun e => .bl (isTreeB k e)) (fun e ρ Q he hρ hn q => ?_) rfl ts [] ht (by simp; omega) ?_
                    · have h0' := hn 0 (by decide)
                      walk_at "dl"
                      rw [h0']
                      walk_at "dl"
                      rw [hρ]
                      walk_at "dl"
                      refine ⟨k, e, rfl, nd, he.pl, he.cn, ?_⟩
                      walk_at "dl"
                      exact q
                    · walk_at "dl"
                      rw [lk_eq (all_map (isTreeB k) ts)]
                      walk_at "dl"
                      exact h2
                  · rw [decide_eq_false h4, Bool.false_and] at h2
                    rw [if_pos (by simp [h4])]
                    exact h2
                · rw [lk_eq (isi_tupT tc), hc]
                  walk_at "dl"
                  cases c <;> first | exact h | cases hc
              · rw [decide_eq_false h1, if_pos (by decide)]
                cases c with
                | tup ts =>
                  have h : QD (.dat (.bl (decide (0 ≤ j) && (decide (j < facAt l i) && _)))) _ := h
                  rw [decide_eq_false h1, Bool.false_and, Bool.and_false] at h
                  exact h
                | _ => exact h
            · rw [if_neg h0]
              cases c with
              | tup ts =>
                have h : QD (.dat (.bl (decide (0 ≤ j) && _))) _ := h
                rw [decide_eq_false h0, Bool.false_and] at h
                exact h
              | _ => exact h
    · rw [rec_three h3] at h
      rw [if_pos (by simp only [beq_eq_false_iff_ne, Bool.not_eq_true']; omega)]
      exact h
  · rw [lk_eq (isi_tupT hd.ty), hs]
    walk_at "dl"
    rw [rec_notup hs] at h
    exact h
def rd_is_record (ks : List Nat) (LC : Addr) (sp_is_record_of : DSp) : SD :=
  (wRet ks (wCall ks sp_is_record_of (wCons (wVar 0) (wCons (wFld LC "factors" (wVar 1)) (wCons (wVar 2) wNil)))))
def sp_is_record (LC : Addr) : DSp := fun args Q _ => ∃ (k : Kind) (l : List Int) (d : D), args = [.dat (kindD k), .dat (.ins LC (layF (trimZ l))), .dat d] ∧ (k.map (·.1)).Nodup ∧ RecOk d ∧ Q (.dat (.bl (recB k l d))) [.dat (kindD k), .dat (.ins LC (layF (trimZ l))), .dat d]
theorem rec_trim (k : Kind) (l : List Int) (d : D) : recB k (trimZ l) d = recB k l d := by
  unfold recB
  split
  · rw [facAt_trim]
  · rfl
theorem pl_is_record (LC : Addr) : PL 3 3 (fun ks => rd_is_record ks LC sp_is_record_of) (sp_is_record LC) := fun args QD ED h => by
  obtain ⟨k, l, d, rfl, nd, hd, h⟩ := h
  refine ⟨rfl, ?_⟩
  unfold rd_is_record
  walk_at "dl"
  rw [lk_eq (show List.lookup fF (layF (trimZ l)) = some (.tup ((trimZ l).map .int)) from rfl)]
  walk_at "dl"
  refine ⟨k, trimZ l, d, rfl, nd, hd, ?_⟩
  rw [rec_trim]
  walk_at "dl"
  exact h
def rd_size_of_record (ks : List Nat) (sp_size_of : DSp) : SD :=
  (wRet ks (wB gSum (wCons (wLc ks (wItS ks (wOp gIx (wVar 0) (wC (.int 2)))) (hName ks 1) wYes (wCall ks sp_size_of (wCons (wVar 1) wNil)) [1]) wNil)))
def sp_size_of_record : DSp := fun args Q _ => ∃ (a b : D) (ts : List D), args = [.dat (.tup [a, b, .tup ts])] ∧ (∀ e ∈ ts, TupT e ∧ tagN e < 900000) ∧ ts.length ≤ 50000 ∧ Q (.dat (.int (tagNs ts : Nat))) [.dat (.tup [a, b, .tup ts])]
theorem sum_tags : ∀ ts : List D, (ts.map fun e => ((tagN e : Nat) : Int)).sum = ((tagNs ts : Nat) : Int)
  | [] => rfl
  | e :: ts => by
    rw [List.map_cons, List.sum_cons, sum_tags ts]
    show _ = ((tagN e + tagNs ts : Nat) : Int)
    omega
theorem sum_ints (l : List Int) : gSum [.lst (l.map .int)] = some (.d (.int l.sum)) := by
  unfold gSum
  dsimp only
  rw [intsD_map]; rfl
theorem pl_size_of_record : PL 2 1 (fun ks => rd_size_of_record ks sp_size_of) sp_size_of_record := fun args QD ED h => by
  obtain ⟨a, b, ts, rfl, ht, hl, h⟩ := h
  refine ⟨rfl, ?_⟩
  unfold rd_size_of_record
  walk_at "dl"
  refine ⟨fun o z => (by cases z), ?_⟩
  refine Eq.mpr (congrArg (fun z => compL _ _ _ _ _ z _ _ _) (List.map_id ts).symm) ?_
  refine one_comp (i := 1) (P := fun e => TupT e ∧ tagN e < 900000) (by decide) (f := fun e => .int ((tagN e : Nat) : Int)) (fun e ρ Q he hρ hn q => ?_) rfl ts [] ht (by simp; omega) ?_
  · walk_at "dl"
    rw [hρ]
    walk_at "dl"
    refine ⟨e, rfl, he.1, he.2, ?_⟩
    walk_at "dl"
    exact q
  · walk_at "dl"
    have e1 : ts.map (fun e => D.int ((tagN e : Nat) : Int)) = (ts.map fun e => ((tagN e : Nat) : Int)).map .int := by rw [List.map_map]; rfl
    rw [e1, lk_eq (sum_ints _), sum_tags]
    walk_at "dl"
    exact h

/-! ### by the law -/
def rd__law_is_int (ks : List Nat) : SD :=
  (wRet ks (wAndV (wB gIsi (wCons (wVar 0) (wCons (wC (.ty "int")) wNil))) (wNotV (wB gIsi (wCons (wVar 0) (wCons (wC (.ty "bool")) wNil))))))
def sp__law_is_int : DSp := sp_is_integer
theorem pl__law_is_int : PL 1 1 rd__law_is_int sp__law_is_int := pl_is_integer
def rd__law_tags_of (ks : List Nat) : SD :=
  (wSeq (wPar ks [1, 2] (wCons (wC (.int 0)) (wCons (wB gListOf (wCons (wVar 0) wNil)) wNil)))
  (wSeq (wWhile (wBl (wOp (gEqA true) (wVar 2) (wLst ks wNil))) (wSeq (wAsg ks 3 (wMut ks 2 gPop wNil))
  (wSeq (wAsg ks 1 (wOp gAdd (wVar 1) (wC (.int 1))))
  (wDrop (wMut ks 2 gExtend (wCons (wB gListOf (wCons (wSl gSl (wVar 3) (wPart (wC (.int 1))) wNoP) wNil)) wNil))))))
  (wRet ks (wVar 1))))
abbrev toBody (ks : List Nat) : SD := (wSeq (wAsg ks 3 (wMut ks 2 gPop wNil))
  (wSeq (wAsg ks 1 (wOp gAdd (wVar 1) (wC (.int 1))))
  (wDrop (wMut ks 2 gExtend (wCons (wB gListOf (wCons (wSl gSl (wVar 3) (wPart (wC (.int 1))) wNoP) wNil)) wNil)))))
theorem to_loop {thing : D} {DD : EndsD} (N : Nat) (hN : ∀ (s2 s3 : Sl), DD.nx [.dat thing, .dat (.int (N : Nat)), s2, s3]) : ∀ (m : Nat) (w : List D) (c : Nat) (s3 : Sl), tagNs w ≤ m → tagNs w < 900000 → c + tagNs w = N → TupTs w →
    whileN (wBl (wOp (gEqA true) (wVar 2) (wLst [] wNil))) (toBody []) DD (m + 1) [.dat thing, .dat (.int (c : Nat)), .own (.lst w), s3] := by
  intro m
  induction m with
  | zero =>
    intro w c s3 hm hz hc hp
    cases w with
    | nil =>
      rw [whileN_succ]
      walk_at "dl"
      have : c = N := by have : tagNs [] = 0 := rfl; omega
      rw [this]
      exact hN _ s3
    | cons d w =>
      exfalso
      have : tagNs (d :: w) = tagN d + tagNs w := rfl
      have := tagN_pos d
      omega
  | succ m ih =>
    intro w c s3 hm hz hc hp
    rcases List.eq_nil_or_concat w with rfl | ⟨w, d, rfl⟩
    · rw [whileN_succ]
      walk_at "dl"
      have : c = N := by have : tagNs [] = 0 := rfl; omega
      rw [this]
      exact hN _ s3
    · rw [List.concat_eq_append] at *
      have hd : TupT d := TupTs_mem hp (List.mem_append_right _ List.mem_cons_self)
      have hw : TupTs w := TupTs_of fun x hx => TupTs_mem hp (List.mem_append_left _ hx)
      have ht : tagNs (w ++ [d]) = tagNs w + tagN d := by rw [tagNs_app]; show _ + (tagN d + 0) = _; omega
      have he : (w ++ [d]).isEmpty = false := by cases w <;> rfl
      obtain ⟨x, l, rfl, hl⟩ := tupT_shape hd
      rw [whileN_succ]
      walk_at "dl"
      rw [he]
      walk_at "dl"
      rw [lk_eq pop_ok]
      walk_at "dl"
      have e1 : cutD (x :: l) (some 1) none = l := cutD_from 1
      rw [e1]
      have e2 : tagN (.tup (x :: l)) = 1 + tagNs l := rfl
      have hlen := tagNs_len (w ++ l)
      rw [tagNs_app] at hlen
      refine ⟨by rw [List.length_append] at hlen; omega, ?_⟩
      have e3 : ((c : Nat) : Int) + 1 = ((c + 1 : Nat) : Int) := by omega
      rw [e3]
      exact ih (w ++ l) (c + 1) _ (by rw [tagNs_app]; omega) (by rw [tagNs_app]; omega) (by rw [tagNs_app]; omega) (TupTs_of fun y hy => (List.mem_append.mp hy).elim (TupTs_mem hw) (TupTs_mem hl))
def sp__law_tags_of : DSp := fun args Q _ => ∃ (ts : List D), args = [.dat (.tup ts)] ∧ TupTs ts ∧ tagNs ts < 900000 ∧ Q (.dat (.int (tagNs ts : Nat))) [.dat (.tup ts)]
theorem pl__law_tags_of : PL 4 1 rd__law_tags_of sp__law_tags_of := fun args QD ED h => by
  obtain ⟨ts, rfl, ht, hz, h⟩ := h
  refine ⟨rfl, ?_⟩
  unfold rd__law_tags_of
  walk_at "dl"
  refine ⟨tagNs ts + 1, ?_⟩
  refine to_loop (tagNs ts) (fun s2 s3 => ?_) (tagNs ts) ts 0 .no (by omega) (by omega) (by omega) ht
  walk_at "dl"
  exact h
def rd__law_is_record (ks : List Nat) (sp__law_is_tree : DSp) (sp__law_is_int : DSp) : SD :=
  (wSeq (wIfS (wOr (wNot (wTr (wB gIsi (wCons (wVar 2) (wCons (wC (.ty "tuple")) wNil))))) (wOr (wBl (wOp (gEqA true) (wB gLen (wCons (wVar 2) wNil)) (wC (.int 3)))) (wOr (wNot (wTr (wCall ks sp__law_is_int (wCons (wOp gIx (wVar 2) (wC (.int 0))) wNil)))) (wNot (wTr (wCall ks sp__law_is_int (wCons (wOp gIx (wVar 2) (wC (.int 1))) wNil))))))) (wRet ks (wC (.bl false))) wNext)
  (wSeq (wIfS (wOr (wNot (wBl (wChain (gInt fLe) (gInt fLt) (wC (.int 0)) (wOp gIx (wVar 2) (wC (.int 0))) (wB gLen (wCons (wVar 1) wNil))))) (wNot (wBl (wChain (gInt fLe) (gInt fLt) (wC (.int 0)) (wOp gIx (wVar 2) (wC (.int 1))) (wOp gIx (wVar 1) (wOp gIx (wVar 2) (wC (.int 0)))))))) (wRet ks (wC (.bl false))) wNext)
  (wSeq (wIfS (wOr (wNot (wTr (wB gIsi (wCons (wOp gIx (wVar 2) (wC (.int 2))) (wCons (wC (.ty "tuple")) wNil))))) (wBl (wOp (gEqA true) (wB gLen (wCons (wOp gIx (wVar 2) (wC (.int 2))) wNil)) (wOp gIx (wVar 2) (wC (.int 0)))))) (wRet ks (wC (.bl false))) wNext)
  (wRet ks (wOp (gIn true) (wC (.bl false)) (wLc ks (wItS ks (wOp gIx (wVar 2) (wC (.int 2)))) (hName ks 3) wYes (wCall ks sp__law_is_tree (wCons (wVar 0) (wCons (wVar 3) wNil))) [3]))))))
def sp__law_is_record : DSp := fun args Q _ => ∃ (k : Kind) (l : List Int) (d : D), args = [.dat (kindD k), .dat (.lst (l.map .int)), .dat d] ∧ KindOk k ∧ RecOk d ∧ Q (.dat (.bl (recB k l d))) [.dat (kindD k), .dat (.lst (l.map .int)), .dat d]
theorem pl__law_is_record : PL 4 3 (fun ks => rd__law_is_record ks (sp__law_is_tree 12) sp__law_is_int) sp__law_is_record := fun args QD ED h => by
  obtain ⟨k, l, d, rfl, hk, hd, h⟩ := h
  refine ⟨rfl, ?_⟩
  unfold rd__law_is_record
  walk_at "dl"
  rcases tup_orB d with ⟨m, rfl⟩ | hs
  · rw [lk_eq (rfl : gIsi [.tup m, .ty "tuple"] = some (.d (.bl true)))]
    walk_at "dl"
    rw [if_neg (by decide)]
    by_cases h3 : m.length = 3
    · match m, h3, hd, h with
      | [a, b, c], _, hd, h =>
        obtain ⟨ta, tb, tc, hts⟩ := hd.it a b c rfl
        rw [if_neg (fun z => (by cases (show false = true from z)))]
        walk_at "dl"
        refine ⟨a, rfl, ta, ?_⟩
        cases ha : intB a with
        | false =>
          rw [rec_int1 ha] at h
          walk_at "dl"
          exact h
        | true =>
          obtain ⟨i, rfl⟩ := int_is ha
          walk_at "dl"
          refine ⟨b, rfl, tb, ?_⟩
          cases hb : intB b with
          | false =>
            rw [rec_int2 hb] at h
            walk_at "dl"
            exact h
          | true =>
            obtain ⟨j, rfl⟩ := int_is hb
            walk_at "dl"
            have no : ¬ (0 ≤ j ∧ j < facAt l i) → QD (.dat (.bl false)) [.dat (kindD k), .dat (.lst (l.map .int)), .dat (.tup [.int i, .int j, c])] := fun hn => by
              have e : recB k l (.tup [.int i, .int j, c]) = false := by
                cases c with
                | tup ts =>
                  show (decide (0 ≤ j) && (decide (j < facAt l i) && _)) = false
                  rw [← Bool.and_assoc, ← Bool.decide_and, decide_eq_false hn, Bool.false_and]
                | _ => rfl
              rw [e] at h
              exact h
            by_cases i0 : 0 ≤ i
            · rw [if_pos i0]
              by_cases i1 : i < (l.length : Int)
              · rw [decide_eq_true i1, if_neg (by decide)]
                by_cases h0 : 0 ≤ j
                · rw [if_pos h0]
                  obtain ⟨v, _, e, e2⟩ := facAt_in i0 i1
                  rw [lk_eq e]
                  walk_at "dl"
                  by_cases h1 : j < facAt l i
                  · rw [decide_eq_true (e2 ▸ h1), if_neg (by decide)]
                    rcases tup_orB c with ⟨ts, rfl⟩ | hc
                    · obtain ⟨hl, ht⟩ := hts ts rfl
                      rw [lk_eq (rfl : gIsi [.tup ts, .ty "tuple"] = some (.d (.bl true)))]
                      walk_at "dl"
                      rw [if_neg (by decide)]
                      have h2 : QD (.dat (.bl (decide (0 ≤ j) && (decide (j < facAt l i) && (decide ((ts.length : Int) = i) && ts.all (isTreeB k)))))) [.dat (kindD k), .dat (.lst (l.map .int)), .dat (.tup [.int i, .int j, .tup ts])] := h
                      rw [decide_eq_true h0, decide_eq_true h1, Bool.true_and, Bool.true_and] at h2
                      by_cases h4 : (ts.length : Int) = i
                      · rw [decide_eq_true h4, Bool.true_and] at h2
                        rw [if_neg (by simp [h4])]
                        refine ⟨fun o z => (by cases z), ?_⟩
                        refine Eq.mpr (congrArg (fun z => compL _ _ _ _ _ z _ _ _) (List.map_id ts).symm) ?_
                        refine one_comp (i := 3) (P := fun e => TrOk e) (by decide) (f := fun e => .bl (isTreeB k e)) (fun e ρ Q he hρ hn q => ?_) rfl ts [] ht (by simp; omega) ?_
                        · have h0' := hn 0 (by decide)
                          walk_at "dl"
                          rw [h0']
                          walk_at "dl"
                          rw [hρ]
                          walk_at "dl"
                          refine ⟨k, e, rfl, hk, he.pl, he.cn, he.dp, ?_⟩
                          walk_at "dl"
                          exact q
                        · walk_at "dl"
                          have e3 : ts.map (fun e => D.bl (isTreeB k e)) = (ts.map (isTreeB k)).map .bl := by rw [List.map_map]; rfl
                          rw [e3, lk_eq (in_bools _)]
                          walk_at "dl"
                          have e4 : (ts.map (isTreeB k)).all id = ts.all (isTreeB k) := by rw [List.all_map]; rfl
                          rw [e4]
                          exact h2
                      · rw [decide_eq_false h4, Bool.false_and] at h2
                        rw [if_pos (by simp [h4])]
                        exact h2
                    · rw [lk_eq (isi_tupT tc), hc]
                      walk_at "dl"
                      cases c <;> first | exact h | cases hc
                  · rw [decide_eq_false (e2 ▸ h1), if_pos (by decide)]
                    exact no fun z => h1 z.2
                · rw [if_neg h0]
                  exact no fun z => h0 z.1
              · rw [decide_eq_false i1, if_pos (by decide)]
                exact no fun z => by rw [facAt_out (by omega)] at z; omega
            · rw [if_neg i0]
              exact no fun z => by rw [facAt_out (by omega)] at z; omega
    · rw [rec_three h3] at h
      rw [if_pos (by simp only [beq_eq_false_iff_ne, Bool.not_eq_true']; omega)]
      exact h
  · rw [lk_eq (isi_tupT hd.ty), hs]
    walk_at "dl"
    rw [rec_notup hs] at h
    exact h
end DL

set_option Elab.async false
set_option maxRecDepth 100000
set_option maxHeartbeats 4000000
/-! DE: the end: the law's own call, from its promise over data. -/
namespace DL
open PySem PySem.Spec PyProof.Rows L2

/-- where a def of the module's top stands -/
structure AtM (K : PySem.W.Frag) (mg : Str → Option Value) (x : Str) (st : Stmt) : Prop where
  fn : ∃ (f : Addr) (fd : FuncData), Fun K x x st f fd ∧ mg x = some (.ref f) ∧ PySem.W.keepIn K (.ref f) = true
/-- the facts of it that the written part tells -/
structure AtK (K : PySem.W.Frag) (x : Str) (st : Stmt) : Prop where
  ex : ∃ (f : Addr) (oc : Value) (od an : Option Addr) (osl : Array (Option Value)) (kV doc pm cdv ct : Value), PySem.W.nsIn K mainGlobals x = some (some (.ref f)) ∧
    K.lookup f = some ⟨oc, od, .func (PySem.W.fnOf x x (defArgs st) (defBody st) (defScope st) .none kV doc pm an cdv ct), osl⟩ ∧ PySem.W.codeIn K cdv x = true ∧ PySem.W.keepIn K (.ref f) = true
theorem atK_mk {K : PySem.W.Frag} {x : Str} {st : Stmt} {f : Addr} {oc : Value} {od an : Option Addr} {osl : Array (Option Value)} {kV doc pm cdv ct : Value} (a : PySem.W.nsIn K mainGlobals x = some (some (.ref f)))
    (l : K.lookup f = some ⟨oc, od, .func (PySem.W.fnOf x x (defArgs st) (defBody st) (defScope st) .none kV doc pm an cdv ct), osl⟩) (c : PySem.W.codeIn K cdv x = true) (k : PySem.W.keepIn K (.ref f) = true) : AtK K x st := ⟨f, oc, od, an, osl, kV, doc, pm, cdv, ct, a, l, c, k⟩
theorem AtK.m {K : PySem.W.Frag} {mg : Str → Option Value} {h : Heap} {x : Str} {st : Stmt} (t : AtK K x st) (X : K.In h) (G : h.Ns mainGlobals mg) : AtM K mg x st := by
  obtain ⟨f, oc, od, an, osl, kV, doc, pm, cdv, ct, a, l, c, k⟩ := t.ex
  exact ⟨f, _, fun_mk (st := st) l c k, PySem.W.mg_of X G a, k⟩
/-- an abstract heap that knows the script alone, if anything -/
def scrH (K : PySem.W.Frag) (a : Addr) (vs : List Value) (ns : List Int) : Hp := fun b => if b = a ∧ K.lookup a = none then some (.frz { cls := .type "list", data := .seq vs.toArray } (.lst (ns.map V.int))) else none
section
variable {P : Program} {w : World} {K : PySem.W.Frag} {mg mb : Str → Option Value} {k : Nat} {fa a : Addr} {fd : FuncData} {x : Str} {sp : Sp} {st : Shared} {vs : List Value} {ns : List Int}
theorem scr_some {b : Addr} {u : HO} (h : scrH K a vs ns b = some u) : b = a ∧ K.lookup a = none ∧ u = .frz { cls := .type "list", data := .seq vs.toArray } (.lst (ns.map V.int)) := by
  unfold scrH at h
  split at h
  · rename_i c
    cases h
    exact ⟨c.1, c.2, rfl⟩
  · cases h
theorem scr_sql (kin : K.In st.heap) (obj : st.heap.get? a = some { cls := .type "list", data := .seq vs.toArray }) (ia : IntsAre vs ns) (lz : ns.length ≤ sizeLine) : SqL K (scrH K a vs ns) a (ns.map V.int) := by
  cases q : K.lookup a with
  | none =>
    refine .inl (.inr ⟨{ cls := .type "list", data := .seq vs.toArray }, ?_⟩)
    unfold scrH
    rw [if_pos ⟨rfl, q⟩]
  | some o =>
    have e2 := kin a o q
    rw [obj] at e2
    cases e2
    exact .inr ⟨_, vs.toArray, _, q, rfl, rfl, rfl, by rw [List.size_toArray, ia.length]; exact lz, by simpa using vals_ints ia⟩
/-- the law's call -/
theorem law_run (kin : K.In st.heap) (gl : st.heap.Ns mainGlobals mg) (bl : st.heap.Ns builtinsNs mb) (bx : ∀ y : Str, y ≠ "__name__" → mb y = bootBuiltins y) (nl : st.heap.NoLimit) (gz : st.gens = #[])
    (obj : st.heap.get? a = some { cls := .type "list", data := .seq vs.toArray }) (ia : IntsAre vs ns) (lz : ns.length ≤ sizeLine) (rm : Room k callerA)
    (sm : ModsOk st.heap) (F : ∀ base : Heap, K.In base → base.Ns mainGlobals mg → ModsOk base → FnG P w K mg base CX0 k fa fd [x] sp) (bd : ∀ (s : Shared) (u : Value), BindsTo s fd ⟨[u], []⟩ [(x, u)])
    (want : ∀ H : Hp, SqL K H a (ns.map V.int) → sp [.ref a] H (fun v _ => v = .bl true) fun _ _ _ => False) :
    codeAny (model P w) callerA (.call (.ref fa) ⟨[.ref a], []⟩) (fun r s' => r = .ok (.ret (.bool true)) ∧ OldK st.heap s'.heap ∧ s'.os = st.os ∧ AllBare s'.gens) st := by
  have hH : ∀ {b : Addr} {u : HO}, scrH K a vs ns b = some u → b = a ∧ K.lookup a = none ∧ u = .frz { cls := .type "list", data := .seq vs.toArray } (.lst (ns.map V.int)) := fun h => scr_some h
  have off : ∀ {b : Addr} {o : Obj}, st.heap.get? b = some o → (b = a → K.lookup a ≠ none) → (hidT st.heap (scrH K a vs ns)).get? b = some o := fun {b o} e n => hidT_get e (by
    cases q : scrH K a vs ns b with
    | none => rfl
    | some u => exact absurd (hH q).2.1 (n (hH q).1))
  have offD : ∀ {b : Addr} {o : Obj} {es : Array DictEntry} {ep : Nat}, st.heap.get? b = some o → o.data = .dict es ep → (hidT st.heap (scrH K a vs ns)).get? b = some o := fun {b o es ep} e d => off e fun z => by
    subst z
    rw [obj] at e
    cases e
    cases (show Data.seq vs.toArray _ = Data.dict es ep from d)
  have offN : ∀ {b : Addr} {m : Str → Option Value}, st.heap.Ns b m → (hidT st.heap (scrH K a vs ns)).Ns b m := fun {b m} h => by
    obtain ⟨o, es, ep, e, d, r⟩ := h
    exact ⟨o, es, ep, offD e d, d, r⟩
  have kin2 : K.In (hidT st.heap (scrH K a vs ns)) := fun b o e => off (kin b o e) fun z => by
    subst z
    rw [e]
    exact fun z => by cases z
  have mods : Mod K mg (hidT st.heap (scrH K a vs ns)) := by
    refine ⟨kin2, offN gl, ⟨mb, offN bl, bx⟩, ?_⟩
    obtain ⟨mc, h1, h2⟩ := nl
    exact ⟨mc, offN h1, h2⟩
  have held : HOk P w (scrH K a vs ns) st.heap := fun b u h => by
    obtain ⟨rfl, _, rfl⟩ := hH h
    exact ⟨obj, by rw [List.length_map]; exact lz, vs, _, vals_ints ia, obj⟩
  have env : Env0 P w K mg (hidT st.heap (scrH K a vs ns)) callerA [] st (scrH K a vs ns) := by
    refine ⟨rfl, mods, fun b o e => of_hidT e, Nat.le_of_eq (hidT_size _ _), trivial, fun b hb => ?_, held, .of_eq gz⟩
    cases hb
  have run := (F _ kin2 (offN gl) (sm.imp fun _ => offN)).run callerA [] st _ ⟨[.ref a], []⟩ [.ref a] [.ref a] _ _ rm rfl env (bd st (.ref a)) (.cons rfl .nil) (want _ (scr_sql kin obj ia lz))
  refine codeAny_mono run fun r s' h => ?_
  match r, h with
  | .error e, h => exact h.elim
  | .ok .next, h => exact h.elim
  | .ok .brk, h => exact h.elim
  | .ok .cont, h => exact h.elim
  | .ok (.ret u), h =>
    obtain ⟨v, H', h1, h2, un, held', rv, q⟩ := h
    have q2 : v = .bl true := q
    subst q2
    cases (show u = Value.bool true from rv)
    refine ⟨rfl, OldK.of_keep fun b o e => ?_, h1, h2⟩
    cases z : scrH K a vs ns b with
    | none => exact un.keep b o e z (fun y => by cases y) (by simp)
    | some u =>
      obtain ⟨rfl, _, rfl⟩ := hH z
      rw [obj] at e
      cases e
      exact (held' b _ (un.frzs b _ _ z)).1
end
/-- what k_head leaves (case hc), from the law's promise over data -/
theorem walk_law {l : PySem.W.OpenLaw} {n k : Nat} {q : Program} {loose : List Str} {XP : (Str → Option Value) → Heap → Prop} {YP : World → Heap → Prop} {d : DefRec} {K : Params → PySem.W.Frag} {sp : DSp} {x : Str} (hn : l.most = some n) (hn2 : n ≤ sizeLine) (hdf : d.params.defaults = [])
    (rm : Room k callerA) (imp : importsNone q = true) (hY : ∀ (w : World) (h : Heap), YP w h → (K w.params).In h)
    (F : ∀ (w : World) (mg : Str → Option Value) (fa : Addr) (h : Heap), (K w.params).In h → h.Ns mainGlobals mg → mg d.name = some (.ref fa) →
      ∃ fd : FuncData, (∀ (s : Shared) (u : Value), BindsTo s fd ⟨[u], []⟩ [(x, u)]) ∧ ∀ base : Heap, (K w.params).In base → base.Ns mainGlobals mg → ModsOk base → FnG l.prog w (K w.params) mg base CX0 k fa fd [x] (toSp (K w.params) sp))
    (want : ∀ (ns : List Int) (Q : R → List Sl → Prop), ns.length ≤ n → (∀ z ∈ ns, Builtin.Int.intBits z ≤ 1048576) → (∀ a, Q (.dat (.bl true)) a) → sp [.dat (.fzl (ns.map .int))] Q fun _ _ => False) :
    PySem.W.WalkO q loose XP YP l.row.toRowW d [] (fun f vs => PySem.call f vs) := by
  refine Att.attach_callB hn hdf ?_
  intro w s0 st mg mb fa o pm cd doc a vs ns gr yp _ _ _ hm obj ia hl hbits gz
  have kin := hY w _ yp
  obtain ⟨fd, bd, FF⟩ := F w mg fa _ kin gr.T.g hm
  have sm : ModsOk st.heap := by
    obtain ⟨mm, h1, _⟩ := (gr.T.seer imp).mods
    exact ⟨mm, h1⟩
  refine law_run kin gr.T.g gr.T.b gr.T.builtins gr.T.nolimit gz obj ia (Nat.le_trans hl hn2) rm sm FF bd fun H hs => ?_
  have ra : RpA (K w.params) H (ns.map V.int) (ns.map .int) := by
    have : ∀ m : List Int, RpA (K w.params) H (m.map V.int) (m.map .int) := fun m => by
      induction m with
      | nil => exact .nil
      | cons i m ih => exact .cons (.int i) ih
    exact this ns
  refine ⟨H, [.dat (.fzl (ns.map .int))], fun r _ => r = .dat (.bl true), _, Ex.refl H, .cons (.fzl hs ra) .nil, by exact List.nodup_nil, want ns _ hl hbits (fun _ => rfl), fun v H' G' r args' _ rr e => ?_, fun _ _ _ _ _ _ _ e => e.elim⟩
  subst e
  cases (show Rp (K w.params) G' v (.bl true) from rr)
  rfl
end DL

set_option Elab.async false
set_option maxRecDepth 100000
set_option maxHeartbeats 4000000
/-! DF: what of the text a class must have. -/
namespace DL
open PySem PySem.Spec PyProof.Rows L2
/-- a method of a class -/
structure AtMth (K : PySem.W.Frag) (C : Addr) (m qual : Str) (st : Stmt) : Prop where
  ex : ∃ (f : Addr) (fd : FuncData), Fun K m qual st f fd ∧ PySem.W.findIn K (.ref C) m = some (some (.ref f)) ∧ PySem.W.isFn K (.ref f) = true
theorem atMth_mk {K : PySem.W.Frag} {C : Addr} {m qual : Str} {st : Stmt} {f : Addr} {oc : Value} {od an : Option Addr} {osl : Array (Option Value)} {kV doc pm cdv ct : Value} (a : PySem.W.findIn K (.ref C) m = some (some (.ref f))) (i : PySem.W.isFn K (.ref f) = true)
    (l : K.lookup f = some ⟨oc, od, .func (PySem.W.fnOf m qual (defArgs st) (defBody st) (defScope st) .none kV doc pm an cdv ct), osl⟩) (c : PySem.W.codeIn K cdv qual = true) (k : PySem.W.keepIn K (.ref f) = true) : AtMth K C m qual st := ⟨f, _, fun_mk (st := st) l c k, a, i⟩
/-- a class of the module's top -/
structure ClsK (K : PySem.W.Frag) (x : Str) (C : Addr) : Prop where
  at_ : PySem.W.nsIn K mainGlobals x = some (some (.ref C))
  pg : PySem.W.plainGet K C Str.empty = true
  hd : PySem.W.hasDictIn K C = true
  po : PySem.W.plainOver K C = true
  sa : PySem.W.findIn K (.ref C) "__setattr__" = some (some (.builtin "object.__setattr__"))
  mks : PySem.W.makesIn K C = true
  kc : PySem.W.keepIn K (.ref C) = true
theorem ClsK.cls {K : PySem.W.Frag} {x : Str} {C : Addr} (c : ClsK K x C) : Cls K C := ⟨c.pg, c.hd, c.po, c.sa⟩
theorem knownM {P : Program} {w : World} {K : PySem.W.Frag} {mg : Str → Option Value} {base : Heap} {k : Nat} {C : Addr} {x qual : Str} {st : Stmt} {N ps : List Str} {sp : DSp} {rd : List Nat → SD} (c : ClsK K x C) (mgx : mg x = some (.ref C)) (t : AtMth K C "__init__" qual st) (S : FnScope N ps (defScope st)) (p : PL N.length ps.length rd sp)
    (bd : ∀ (f : Addr) (fd : FuncData), Fun K "__init__" qual st f fd → Binds K fd ps [])
    (d : ∀ (f : Addr) (cdv : Value) (A : Around) (out : List Env) (s0 : Shared) (H : Hp) (b : Bas) (ks : List Nat) (E : XK), Room k (A.deeper (envOfC qual (defScope st) s0.heap.objs.size f cdv)) → (A.deeper (envOfC qual (defScope st) s0.heap.objs.size f cdv)).guards = some [] → b.kp.map (·.1) = ks →
      PSsD (cxOf CX0 P w K mg base N qual (defScope st) f cdv A out s0 H E).nox b (defBody st) (rd ks)) : MkP P w K mg base (k + 1) x C sp := by
  obtain ⟨f, fd, F, hm, hf⟩ := t.ex
  exact ⟨f, fd, ps, ⟨c.mks, hm, hf, c.kc⟩, p.fn F S (d f), mgx, bd f fd F⟩
end DL

set_option Elab.async false
set_option maxRecDepth 100000
set_option maxHeartbeats 4000000
/-! DF2: what of the text an own ==, a static method, a dict of the top must have. -/
namespace DL
open PySem PySem.Spec PyProof.Rows L2
/-- an own == of a class -/
structure EqAt (K : PySem.W.Frag) (C : Addr) (qual : Str) (st : Stmt) : Prop where
  ex : ∃ (f : Addr) (fd : FuncData), Fun K "__eq__" qual st f fd ∧ CmpC K C f
theorem eqAt_mk {K : PySem.W.Frag} {C : Addr} {qual : Str} {st : Stmt} {f : Addr} {oc : Value} {od an : Option Addr} {osl : Array (Option Value)} {kV doc pm cdv ct : Value} (a : PySem.W.findIn K (.ref C) "__eq__" = some (some (.ref f))) (i : PySem.W.isFn K (.ref f) = true)
    (n : PySem.W.findIn K (.ref C) "__ne__" = some (some (.builtin "object.__ne__"))) (o : PySem.W.mroIn K C (.type "object") = some true)
    (l : K.lookup f = some ⟨oc, od, .func (PySem.W.fnOf "__eq__" qual (defArgs st) (defBody st) (defScope st) .none kV doc pm an cdv ct), osl⟩) (c : PySem.W.codeIn K cdv qual = true) (k : PySem.W.keepIn K (.ref f) = true) : EqAt K C qual st := ⟨f, _, fun_mk (st := st) l c k, a, i, n, o⟩
/-- an own operator of a class -/
structure BinAt (K : PySem.W.Frag) (C : Addr) (m qual : Str) (st : Stmt) : Prop where
  ex : ∃ (f : Addr) (fd : FuncData), Fun K m qual st f fd ∧ BinC K C f m
theorem binAt_mk {K : PySem.W.Frag} {C : Addr} {m qual : Str} {st : Stmt} {f : Addr} {oc : Value} {od an : Option Addr} {osl : Array (Option Value)} {kV doc pm cdv ct : Value} (s : PySem.W.selfFirst K C = true) (a : PySem.W.findIn K (.ref C) m = some (some (.ref f))) (i : PySem.W.isFn K (.ref f) = true)
    (l : K.lookup f = some ⟨oc, od, .func (PySem.W.fnOf m qual (defArgs st) (defBody st) (defScope st) .none kV doc pm an cdv ct), osl⟩) (c : PySem.W.codeIn K cdv qual = true) (k : PySem.W.keepIn K (.ref f) = true) : BinAt K C m qual st := ⟨f, _, fun_mk (st := st) l c k, s, a, i⟩
/-- a method that x[i] and its like ask -/
structure OneAt (K : PySem.W.Frag) (C : Addr) (m qual : Str) (st : Stmt) : Prop where
  ex : ∃ (f : Addr) (fd : FuncData), Fun K m qual st f fd ∧ OneC K C f m
theorem oneAt_mk {K : PySem.W.Frag} {C : Addr} {m qual : Str} {st : Stmt} {f : Addr} {oc : Value} {od an : Option Addr} {osl : Array (Option Value)} {kV doc pm cdv ct : Value} (a : PySem.W.findIn K (.ref C) m = some (some (.ref f))) (i : PySem.W.isFn K (.ref f) = true) (j : PySem.W.fnIn K f = true)
    (l : K.lookup f = some ⟨oc, od, .func (PySem.W.fnOf m qual (defArgs st) (defBody st) (defScope st) .none kV doc pm an cdv ct), osl⟩) (c : PySem.W.codeIn K cdv qual = true) (k : PySem.W.keepIn K (.ref f) = true) : OneAt K C m qual st := ⟨f, _, fun_mk (st := st) l c k, a, i, j⟩
/-- a property -/
structure PropAt (K : PySem.W.Frag) (C : Addr) (m qual : Str) (st : Stmt) : Prop where
  ex : ∃ (p g : Addr) (fd : FuncData), Fun K m qual st g fd ∧ PropOf K C m p g
theorem propAt_mk {K : PySem.W.Frag} {C : Addr} {m qual : Str} {st : Stmt} {p g : Addr} {rest : List Value} {oc : Value} {od an : Option Addr} {osl : Array (Option Value)} {kV doc pm cdv ct : Value} (a : PySem.W.findIn K (.ref C) m = some (some (.ref p)))
    (s : PySem.W.specialIn K (.ref p) "__get__" = some (some (.builtin "property.__get__"))) (t : PySem.W.takesIn K (.ref p) = some true) (b : PySem.W.recIn K p "property" = some (.ref g :: rest))
    (l : K.lookup g = some ⟨oc, od, .func (PySem.W.fnOf m qual (defArgs st) (defBody st) (defScope st) .none kV doc pm an cdv ct), osl⟩) (c : PySem.W.codeIn K cdv qual = true) (k : PySem.W.keepIn K (.ref g) = true) : PropAt K C m qual st := ⟨p, g, _, fun_mk (st := st) l c k, a, s, t, ⟨rest, b⟩⟩
/-- a static method of a class -/
structure StatAt (K : PySem.W.Frag) (C : Addr) (m qual : Str) (st : Stmt) : Prop where
  ex : ∃ (p g : Addr) (fd : FuncData), Fun K m qual st g fd ∧ ClX.CRead K C (.type "type") ∧ PySem.W.findCls K (.ref C) (.type "type") m = some (.get (.builtin "staticmethod.__get__") (.ref p) .none (.ref C)) ∧ (∃ rest, PySem.W.recIn K p "staticmethod" = some (.ref g :: rest)) ∧ PySem.W.keepIn K (.ref g) = true
theorem statAt_mk {K : PySem.W.Frag} {C : Addr} {m qual : Str} {st : Stmt} {p g : Addr} {rest : List Value} {oc : Value} {od an : Option Addr} {osl : Array (Option Value)} {kV doc pm cdv ct : Value} (r : PySem.W.readsIn K C (.type "type") = true) (s : PySem.W.specialIn K (.ref C) "__getattribute__" = some (some (.builtin "type.__getattribute__")))
    (a : PySem.W.findCls K (.ref C) (.type "type") m = some (.get (.builtin "staticmethod.__get__") (.ref p) .none (.ref C))) (b : PySem.W.recIn K p "staticmethod" = some (.ref g :: rest)) (k : PySem.W.keepIn K (.ref g) = true)
    (l : K.lookup g = some ⟨oc, od, .func (PySem.W.fnOf m qual (defArgs st) (defBody st) (defScope st) .none kV doc pm an cdv ct), osl⟩) (c : PySem.W.codeIn K cdv qual = true) : StatAt K C m qual st := ⟨p, g, _, fun_mk (st := st) l c k, ⟨r, s⟩, a, ⟨rest, b⟩, k⟩
theorem tabG_some {K : PySem.W.Frag} {d : Addr} {z : Str} {i : Int} {t : Tok} {r : List (Str × Option Int)} (h : PySem.W.nsIn K d z = some (some (.int i t))) (g : TabG K d r) : TabG K d ((z, some i) :: r) := ⟨⟨t, h⟩, g⟩
theorem tabG_none {K : PySem.W.Frag} {d : Addr} {z : Str} {r : List (Str × Option Int)} (h : PySem.W.nsIn K d z = some none) (g : TabG K d r) : TabG K d ((z, none) :: r) := ⟨h, g⟩
theorem tabK_mk {K : PySem.W.Frag} {w : World} {d : Addr} {es : Array DictEntry} {n : Nat} {tab : List (Str × Option Int)} (l : K.lookup d = some ⟨.type "dict", none, .dict es n, #[]⟩) (k : PySem.W.KeysLit w.params es.toList) (o : (d == sysModules) = false) (g : TabG K d tab) : TabK K w d tab := ⟨⟨es, n, ⟨l, k, o⟩⟩, g⟩
theorem isC_mk {K : PySem.W.Frag} {C : Addr} (ha : PySem.W.findIn K (.ref C) "__class__" = some (some (.builtin "object.__class__")))
  (hn : PySem.W.specialIn K (.builtin "object.__class__") "__get__" = some (some (.builtin "getset_descriptor.__get__")))
  (ht : PySem.W.takesIn K (.builtin "object.__class__") = some true) (hm : PySem.W.mroIn K C (.type "object") = some true)
  (o1 : PySem.W.isClsIn K C = true) (o2 : PySem.W.typeIn K (.ref C) = some (.type "type"))
  (n1 : PySem.W.subIn K (.type "NoneType") (.ref C) = some false) (n2 : PySem.W.subIn K (.type "bool") (.ref C) = some false) (n3 : PySem.W.subIn K (.type "int") (.ref C) = some false) (n4 : PySem.W.subIn K (.type "str") (.ref C) = some false)
  (n5 : PySem.W.subIn K (.type "list") (.ref C) = some false) (n6 : PySem.W.subIn K (.type "tuple") (.ref C) = some false) (n7 : PySem.W.subIn K (.type "dict") (.ref C) = some false) : IsC K C :=
  ⟨ha, hn, ht, hm, by
    have o1' : (PySem.W.clsIn K C).isSome = true := o1
    rw [o1', o2]; rfl, n1, n2, n3, n4, n5, n6, n7⟩
section
variable {P : Program} {w : World} {K : PySem.W.Frag} {mg : Str → Option Value} {base : Heap} {k : Nat} {C : Addr} {x m qual : Str} {st : Stmt} {N ps : List Str} {sp : DSp} {rd : List Nat → SD}
theorem knownE (t : EqAt K C qual st) (S : FnScope N ps (defScope st)) (p : PL N.length ps.length rd sp) (bd : ∀ (f : Addr) (fd : FuncData), Fun K "__eq__" qual st f fd → Binds K fd ps [])
    (d : ∀ (f : Addr) (cdv : Value) (A : Around) (out : List Env) (s0 : Shared) (H : Hp) (b : Bas) (ks : List Nat) (E : XK), Room k (A.deeper (envOfC qual (defScope st) s0.heap.objs.size f cdv)) → (A.deeper (envOfC qual (defScope st) s0.heap.objs.size f cdv)).guards = some [] → b.kp.map (·.1) = ks →
      PSsD (cxOf CX0 P w K mg base N qual (defScope st) f cdv A out s0 H E).nox b (defBody st) (rd ks)) : EqP P w K mg base (k + 1) C sp := by
  obtain ⟨f, fd, F, c⟩ := t.ex
  exact ⟨f, fd, ps, c, p.fn F S (d f), bd f fd F⟩
theorem knownB (t : BinAt K C m qual st) (S : FnScope N ps (defScope st)) (p : PL N.length ps.length rd sp) (bd : ∀ (f : Addr) (fd : FuncData), Fun K m qual st f fd → Binds K fd ps [])
    (d : ∀ (f : Addr) (cdv : Value) (A : Around) (out : List Env) (s0 : Shared) (H : Hp) (b : Bas) (ks : List Nat) (E : XK), Room k (A.deeper (envOfC qual (defScope st) s0.heap.objs.size f cdv)) → (A.deeper (envOfC qual (defScope st) s0.heap.objs.size f cdv)).guards = some [] → b.kp.map (·.1) = ks →
      PSsD (cxOf CX0 P w K mg base N qual (defScope st) f cdv A out s0 H E).nox b (defBody st) (rd ks)) : BinP P w K mg base (k + 1) C m sp := by
  obtain ⟨f, fd, F, c⟩ := t.ex
  exact ⟨f, fd, ps, c, p.fn F S (d f), bd f fd F⟩
theorem knownO (t : OneAt K C m qual st) (S : FnScope N ps (defScope st)) (p : PL N.length ps.length rd sp) (bd : ∀ (f : Addr) (fd : FuncData), Fun K m qual st f fd → Binds K fd ps [])
    (d : ∀ (f : Addr) (cdv : Value) (A : Around) (out : List Env) (s0 : Shared) (H : Hp) (b : Bas) (ks : List Nat) (E : XK), Room k (A.deeper (envOfC qual (defScope st) s0.heap.objs.size f cdv)) → (A.deeper (envOfC qual (defScope st) s0.heap.objs.size f cdv)).guards = some [] → b.kp.map (·.1) = ks →
      PSsD (cxOf CX0 P w K mg base N qual (defScope st) f cdv A out s0 H E).nox b (defBody st) (rd ks)) : OneP P w K mg base (k + 1) C m sp := by
  obtain ⟨f, fd, F, c⟩ := t.ex
  exact ⟨f, fd, ps, c, p.fn F S (d f), bd f fd F⟩
theorem knownP (t : PropAt K C m qual st) (S : FnScope N ps (defScope st)) (p : PL N.length ps.length rd sp) (bd : ∀ (f : Addr) (fd : FuncData), Fun K m qual st f fd → Binds K fd ps [])
    (d : ∀ (f : Addr) (cdv : Value) (A : Around) (out : List Env) (s0 : Shared) (H : Hp) (b : Bas) (ks : List Nat) (E : XK), Room k (A.deeper (envOfC qual (defScope st) s0.heap.objs.size f cdv)) → (A.deeper (envOfC qual (defScope st) s0.heap.objs.size f cdv)).guards = some [] → b.kp.map (·.1) = ks →
      PSsD (cxOf CX0 P w K mg base N qual (defScope st) f cdv A out s0 H E).nox b (defBody st) (rd ks)) : PropP P w K mg base (k + 1) C m sp := by
  obtain ⟨pr, f, fd, F, c⟩ := t.ex
  exact ⟨pr, f, fd, ps, c, p.fn F S (d f), bd f fd F⟩
theorem knownS (mgx : mg x = some (.ref C)) (t : StatAt K C m qual st) (S : FnScope N ps (defScope st)) (p : PL N.length ps.length rd sp) (bd : ∀ (f : Addr) (fd : FuncData), Fun K m qual st f fd → Binds K fd ps [])
    (d : ∀ (f : Addr) (cdv : Value) (A : Around) (out : List Env) (s0 : Shared) (H : Hp) (b : Bas) (ks : List Nat) (E : XK), Room k (A.deeper (envOfC qual (defScope st) s0.heap.objs.size f cdv)) → (A.deeper (envOfC qual (defScope st) s0.heap.objs.size f cdv)).guards = some [] → b.kp.map (·.1) = ks →
      PSsD (cxOf CX0 P w K mg base N qual (defScope st) f cdv A out s0 H E).nox b (defBody st) (rd ks)) : StatP P w K mg base (k + 1) x m sp := by
  obtain ⟨pr, g, fd, F, c, a, r, kp⟩ := t.ex
  exact ⟨C, pr, g, _, fd, ps, mgx, c, a, r, kp, p.fn F S (d g), bd g fd F⟩
end
end DL

set_option Elab.async false
set_option maxRecDepth 100000
set_option maxHeartbeats 4000000
/-! S37a: steps: comprehensions, plain facts. -/
namespace DL
open PySem PySem.Spec PyProof.Rows L2
local macro_rules | `(tactic| walk_at "dl") => `(tactic| simp (config := {decide := false}) only [e_eqO, k_eo0, k_eo1, k_eo2, k_eo3, e_cnt, k_cn0, k_cn1, k_cn2, k_cn3, isLst_l, cntD_i, e_fld, k_fl1, k_fl2, k_fl3, insD_i, e_setF, k_sf1, k_sf2, q_sf, e_make, k_mk1, k_mk2, k_mk3, e_never, e_callRR, k_rr1, k_rr2, k_rr3, k_rr4, e_itEA, k_ea1, k_ea2, e_itT2, k_i1, k_i2, e_m1, k_m1, k_m1b, k_m2, k_m3, k_m4, e_itZ, k_z1, e_scLen, k_sc, k_scQ, compT_nil, compT_cons, k_t1, k_t2, k_t2b, k_t3, e_chain, k_ch, k_ch0, k_ch1, k_ch2, k_ch3, k_ch4, k_ch5, k_ch6, rev_l, rev_f, rev_t, clear_l, lista_s, max_2, min_2, inA_s, ix_s, mulA_si, seqE_nx, seqE_rt, seqE_bk, seqE_ct, loopE_nx, loopE_rt, loopE_bk, loopE_ct, e_seq, e_next, e_break, e_cont, e_retN, e_var, q_var_d, q_var_o, e_c, con_d, con_o, con_b, conS_d, conS_o, own_l, own_d, own_i, z_d, z_n, z_t, z_w, sl_d, sl_o, frz_d, frz_o, frz_b, q_frz_d, q_frz_o, frzs_nil, frzs_cons, k_fzs, k_fz, thin_d, thin_o, thin_b, k_th, thins_nil, thins_cons, k_ths, k_ts, setR_nil, setR_cons, k_e, e_op, k_op1, k_op2, k_op3, k_op4, e_un, k_un1, k_un2, e_nil, e_cons, k_co1, k_co2, conL_nil, conL_cons, k_cl, k_cl2, e_b, k_b1, k_b2, e_tup, k_tup1, k_tup2, e_lst, k_lst1, k_lst2, e_dct0, k_ret, e_call, k_ca1, k_ca2, k_retR, e_callR, k_cr1, k_cr2, k_cr3, e_tr, k_tr1, k_tr2, k_tr3, e_bl, k_bl, e_and, k_and, e_or, k_or, e_not, k_not, e_if, k_if, e_ifS, k_ifS, e_notV, k_nv1, k_nv2, e_andV, k_av1, k_av2, e_orV, k_ov1, k_ov2, bD_bl, e_sl, k_sl1, k_sl2, k_sl3, k_sl4, e_part, k_pt1, k_pt2, e_noP, e_dget, k_ge1, k_ge1b, k_ge2, k_ge3, k_ge4, dctD_d, keyD_i, keyD_s, e_mut, q_mu0, k_mu1, k_mu2, q_mu3, k_mu4, e_put, k_pu1, k_pu2, k_pu3, k_pu4, q_pu4, k_pu5, e_aug, q_au0, k_au1, k_au2, k_au3, e_asg, k_as1, k_as2, e_par, k_pa1, k_pa2, e_unp, k_up1, k_up2, e_hName, e_hNil, e_hCons, k_hc, e_hTup, e_hWt, e_drop, k_dr, e_ret, k_rt_d, k_rt_o, k_rt_b, q_out_o, q_out_d, forL_nil, forL_cons, k_fo2, e_for, k_fo1, k_wh, e_itS, k_it1, k_it2, k_it3, walk_l, walk_f, walk_t, e_itR1, k_r11, k_r12, e_itR2, k_r21, k_r22, e_itE, k_en1, k_en2, k_en3, list_l, list_f, e_lc, k_lc, k_lcQ, compL_nil, compL_cons, k_c1, k_c2, k_c3, k_c4, e_yes, wip_nil, wip_cons, unw_nil, unw_cons, g_int, f_add, f_sub, f_mul, f_div, f_mod, f_pow, f_lt, f_le, f_gt, f_ge, add_i, add_s, add_l, add_t, mul_i, mul_l, mul_t, neg_i, ix_l, ix_t, sl_l, sl_f, sl_t, len_l, len_f, len_t, len_s, abs_i, int_i, lof_l, lof_f, lof_t, tof_l, tof_f, tof_t, dof_t, app_l, ext_t, ext_l, tru_b, tru_i, tru_l, tru_t, tru_n, augN, subN, is_bl, is_non, ixN4_0, ixN4_1, ixN4_2, ixN4_3, lk_some, lk_ite, lk_map, lk_bind, ixOf, endsF_nx, endsF_dat, endsF_own, atI_0, atI_1, atI_2, atI_3, eqA_l0, eqA_tup0, eqA_int, eqA_non, bne_f, bne_t, sizeLine_eq,
  List.cons_append, List.nil_append, List.getElem?_cons_zero, List.getElem?_cons_succ, List.set_cons_zero, List.set_cons_succ, List.length_cons, List.length_nil, List.replicate, List.take_succ_cons, List.take_zero, List.not_mem_nil, List.mem_cons, List.map_cons, List.map_nil, if_false, if_true, Option.map_some, Option.bind_some, Option.getD_some, Nat.reduceAdd, Nat.reduceSub, Nat.reduceLeDiff, Nat.reduceEqDiff, Nat.succ_ne_zero, Nat.zero_ne_one, Nat.one_ne_zero, List.isEmpty_nil, List.isEmpty_cons, List.length_map, List.isEmpty_map, beq_iff_eq, Bool.not_eq_true, reduceCtorEq, or_false, or_true, false_or, true_or, and_true, true_and, List.cons.injEq, Option.some.injEq, Sl.own.injEq, Own.lst.injEq, exists_eq', not_false_eq_true, forall_const, forall_eq, forall_eq_or_imp, decide_eq_true_eq, Bool.not_true, Bool.not_false, Bool.false_eq_true, ite_self])
/-! ### comprehensions, the state known -/
theorem at_filt0 {α : Type} {P : α → Prop} {i : Nat} {ks : List Nat} {tt : TTD} {te : TD} {g f : α → D} {pr : α → Bool} {ρ : Rho}
    (hp : ∀ (a : α) (Q : Bool → Rho → Prop), P a → Q (pr a) (ρ.set i (.dat (g a))) → tt (ρ.set i (.dat (g a))) Q)
    (ht : ∀ (a : α) (Q : R → Rho → Prop), P a → Q (.dat (f a)) (ρ.set i (.dat (g a))) → te (ρ.set i (.dat (g a))) Q)
    (hi : ρ[i]? = some .no) {QI : List D → Rho → Prop} (hik : i ∉ ks) : ∀ (xs : List α) (acc : List D), (∀ a ∈ xs, P a) → acc.length + xs.length ≤ 100000 → QI (acc ++ (xs.filter pr).map f) ρ →
    compL ks (hName ks i) tt te [i] (xs.map g) acc ρ QI
  | [], acc, _, _, q => by
    rw [List.filter_nil, List.map_nil, List.append_nil] at q
    exact q
  | a :: xs, acc, hP, h, q => by
    have ha := hP a List.mem_cons_self
    have hx : ∀ b ∈ xs, P b := fun b hb => hP b (List.mem_cons_of_mem _ hb)
    rw [List.length_cons] at h
    rw [List.filter_cons] at q
    rw [List.map_cons, compL_cons, e_hName, if_neg hik]
    walk_at "dl"
    refine hp a _ ha ?_
    walk_at "dl"
    cases hc : pr a with
    | true =>
      rw [hc, if_pos rfl] at q
      rw [if_pos rfl]
      refine ht a _ ha ?_
      walk_at "dl"
      refine ⟨by omega, ?_⟩
      rw [set1_back hi]
      refine at_filt0 hp ht hi hik xs _ hx (by rw [List.length_append, List.length_singleton]; omega) ?_
      rw [List.append_assoc]
      exact q
    | false =>
      rw [hc, if_neg (by decide)] at q
      rw [if_neg (by decide)]
      rw [set1_back hi]
      exact at_filt0 hp ht hi hik xs acc hx (by omega) q
theorem at_comp {α : Type} {P : α → Prop} {i : Nat} {ks : List Nat} {te : TD} {g f : α → D} {ρ : Rho}
    (ht : ∀ (a : α) (Q : R → Rho → Prop), P a → Q (.dat (f a)) (ρ.set i (.dat (g a))) → te (ρ.set i (.dat (g a))) Q)
    (hi : ρ[i]? = some .no) {QI : List D → Rho → Prop} (xs : List α) (acc : List D) (hP : ∀ a ∈ xs, P a) (hl : acc.length + xs.length ≤ 100000) (q : QI (acc ++ xs.map f) ρ) (hik : i ∉ ks := by decide) :
    compL ks (hName ks i) wYes te [i] (xs.map g) acc ρ QI :=
  at_filt0 (pr := fun _ => true) (fun a Q _ q => q) ht hi hik xs acc hP hl (by rw [List.filter_eq_self.mpr (fun _ _ => rfl)]; exact q)
abbrev hT2k (ks : List Nat) (i j : Nat) := hTup 2 (hCons (hName ks i) (hCons (hName ks j) hNil))
abbrev hT2 (i j : Nat) := hT2k [] i j
/-- two names, of a tuple or of what enumerate tells -/
theorem two_filt0 {α : Type} {P : α → Prop} {i j : Nat} {ks : List Nat} {tt : TTD} {te : TD} {g g1 g2 f : α → D} {pr : α → Bool} {ρ : Rho} (hg : ∀ a, g a = .tup [g1 a, g2 a] ∨ g a = .wt [g1 a, g2 a])
    (hp : ∀ (a : α) (Q : Bool → Rho → Prop), P a → Q (pr a) ((ρ.set i (.dat (g1 a))).set j (.dat (g2 a))) → tt ((ρ.set i (.dat (g1 a))).set j (.dat (g2 a))) Q)
    (ht : ∀ (a : α) (Q : R → Rho → Prop), P a → Q (.dat (f a)) ((ρ.set i (.dat (g1 a))).set j (.dat (g2 a))) → te ((ρ.set i (.dat (g1 a))).set j (.dat (g2 a))) Q)
    (hi : ρ[i]? = some .no) (hj : ρ[j]? = some .no) {QI : List D → Rho → Prop} (hik : i ∉ ks) (hjk : j ∉ ks) : ∀ (xs : List α) (acc : List D), (∀ a ∈ xs, P a) → acc.length + xs.length ≤ 100000 → QI (acc ++ (xs.filter pr).map f) ρ →
    compL ks (hT2k ks i j) tt te [i, j] (xs.map g) acc ρ QI
  | [], acc, _, _, q => by
    rw [List.filter_nil, List.map_nil, List.append_nil] at q
    exact q
  | a :: xs, acc, hP, h, q => by
    have ha := hP a List.mem_cons_self
    have hx : ∀ b ∈ xs, P b := fun b hb => hP b (List.mem_cons_of_mem _ hb)
    rw [List.length_cons] at h
    rw [List.filter_cons] at q
    have go : tt ((ρ.set i (.dat (g1 a))).set j (.dat (g2 a))) (kC2 ks (hT2k ks i j) tt te [i, j] (xs.map g) acc QI) := by
      refine hp a _ ha ?_
      walk_at "dl"
      cases hc : pr a with
      | true =>
        rw [hc, if_pos rfl] at q
        rw [if_pos rfl]
        refine ht a _ ha ?_
        walk_at "dl"
        refine ⟨by omega, ?_⟩
        rw [set2_back hi hj]
        refine two_filt0 hg hp ht hi hj hik hjk xs _ hx (by rw [List.length_append, List.length_singleton]; omega) ?_
        rw [List.append_assoc]
        exact q
      | false =>
        rw [hc, if_neg (by decide)] at q
        rw [if_neg (by decide)]
        rw [set2_back hi hj]
        exact two_filt0 hg hp ht hi hj hik hjk xs acc hx (by omega) q
    rcases hg a with e | e <;> rw [List.map_cons, compL_cons, e] <;> walk_at "dl" <;> rw [if_neg hik] <;> try walk_at "dl"
    all_goals rw [if_neg hjk]; exact go

theorem two_filt {α : Type} {P : α → Prop} {i j : Nat} {ks : List Nat} {tt : TTD} {te : TD} {g g1 g2 f : α → D} {pr : α → Bool} {ρ : Rho} (hg : ∀ a, g a = .tup [g1 a, g2 a] ∨ g a = .wt [g1 a, g2 a])
    (hp : ∀ (a : α) (Q : Bool → Rho → Prop), P a → Q (pr a) ((ρ.set i (.dat (g1 a))).set j (.dat (g2 a))) → tt ((ρ.set i (.dat (g1 a))).set j (.dat (g2 a))) Q)
    (ht : ∀ (a : α) (Q : R → Rho → Prop), P a → Q (.dat (f a)) ((ρ.set i (.dat (g1 a))).set j (.dat (g2 a))) → te ((ρ.set i (.dat (g1 a))).set j (.dat (g2 a))) Q)
    (hi : ρ[i]? = some .no) (hj : ρ[j]? = some .no) {QI : List D → Rho → Prop} (xs : List α) (acc : List D) (hP : ∀ a ∈ xs, P a) (hl : acc.length + xs.length ≤ 100000) (q : QI (acc ++ (xs.filter pr).map f) ρ) (hik : i ∉ ks := by decide) (hjk : j ∉ ks := by decide) :
    compL ks (hT2k ks i j) tt te [i, j] (xs.map g) acc ρ QI := two_filt0 hg hp ht hi hj hik hjk xs acc hP hl q

/-! ### lists without zeros at the end -/
def getZ (l : List Int) (n : Nat) : Int := (l[n]?).getD 0
theorem trimZ_idem (l : List Int) : trimZ (trimZ l) = trimZ l := by
  have key : ∀ (m : Nat) (l : List Int), l.length = m → trimZ (trimZ l) = trimZ l := by
    intro m
    induction m with
    | zero =>
      intro l h
      cases l with
      | nil => rfl
      | cons i l => cases h
    | succ m ih =>
      intro l h
      rcases List.eq_nil_or_concat l with rfl | ⟨l, i, rfl⟩
      · cases h
      · rw [List.concat_eq_append] at *
        by_cases hi : i = 0
        · subst hi
          rw [trimZ_zero, ih l (by simpa using h)]
        · rw [trimZ_last hi, trimZ_last hi]
  exact key _ l rfl
theorem tr_last {t : List Int} (h : trimZ t = t) : t = [] ∨ ∃ m i, t = m ++ [i] ∧ i ≠ 0 := by
  rcases List.eq_nil_or_concat t with rfl | ⟨m, i, rfl⟩
  · exact .inl rfl
  · rw [List.concat_eq_append] at *
    refine .inr ⟨m, i, rfl, fun z => ?_⟩
    subst z
    rw [trimZ_zero] at h
    have h1 := trimZ_len m
    rw [h, List.length_append, List.length_singleton] at h1
    omega
theorem tr_uniq {s t : List Int} (hs : trimZ s = s) (ht : trimZ t = t) (h : ∀ n, getZ s n = getZ t n) : s = t := by
  have le : ∀ {s t : List Int}, trimZ s = s → (∀ n, getZ s n = getZ t n) → s.length ≤ t.length := fun {s t} hs h => by
    rcases tr_last hs with rfl | ⟨m, i, rfl, hi⟩
    · exact Nat.zero_le _
    · rcases Nat.lt_or_ge m.length t.length with hl | hl
      · rw [List.length_append, List.length_singleton]; omega
      · have := h m.length
        unfold getZ at this
        rw [List.getElem?_append_right (Nat.le_refl _), Nat.sub_self, List.getElem?_eq_none hl] at this
        exact absurd this hi
  have e : s.length = t.length := Nat.le_antisymm (le hs h) (le ht fun n => (h n).symm)
  refine List.ext_getElem? fun n => ?_
  have hn := h n
  unfold getZ at hn
  by_cases h1 : n < s.length
  · rw [List.getElem?_eq_getElem h1, List.getElem?_eq_getElem (e ▸ h1)] at hn ⊢
    exact congrArg some hn
  · rw [List.getElem?_eq_none (by omega), List.getElem?_eq_none (by omega)]
theorem facAt_nat (l : List Int) (n : Nat) : facAt l (n : Nat) = getZ l n := by
  unfold facAt getZ
  rw [if_pos (by omega), Int.toNat_natCast]
theorem facAt_nn {l : List Int} (h : ∀ i ∈ l, 0 ≤ i) (i : Int) : 0 ≤ facAt l i := by
  unfold facAt
  split
  · cases e : l[i.toNat]? with
    | none => exact Int.le_refl _
    | some v => exact h v (List.mem_of_getElem? e)
  · exact Int.le_refl _
theorem facAt_pos {l : List Int} {i : Int} (h : 0 < facAt l i) : 0 ≤ i ∧ i < (l.length : Int) := by
  by_cases h1 : 0 ≤ i ∧ i < (l.length : Int)
  · exact h1
  · rw [facAt_out h1] at h; omega

/-! ### steps -/
/-- how many variants have so many parts -/
def cntK (k : Kind) (n : Int) : Int := ((k.map (·.2)).count n : Nat)
theorem cntK_nn (k : Kind) (n : Int) : 0 ≤ cntK k n := Int.natCast_nonneg _
theorem cntK_pos {k : Kind} {p : Str × Int} (h : p ∈ k) : 0 < cntK k p.2 := by
  have : 0 < (k.map (·.2)).count p.2 := List.count_pos_iff.mpr (List.mem_map_of_mem h)
  unfold cntK
  omega
theorem cntK_out {k : Kind} {n : Int} (h : ∀ p ∈ k, p.2 ≠ n) : cntK k n = 0 := by
  have : (k.map (·.2)).count n = 0 := List.count_eq_zero.mpr fun hm => by
    obtain ⟨p, h1, h2⟩ := List.mem_map.mp hm
    exact h p h1 h2
  unfold cntK
  rw [this]; rfl
def openB (l : List Int) (a b : Int) : Bool := decide (1 ≤ a ∧ 1 ≤ b ∧ b ≤ facAt l a)
def closeB (k : Kind) (l : List Int) (a b : Int) : Bool := decide (1 ≤ a ∧ 1 ≤ b ∧ ∀ p ∈ k, b * cntK k p.2 ≤ facAt l (a - 1 + p.2))
def moveB (l : List Int) (a b c : Int) : Bool := decide (0 ≤ a ∧ 0 ≤ b ∧ 1 ≤ c ∧ b + c ≤ facAt l a)
def turnB (l : List Int) (a b c : Int) : Bool := decide (1 ≤ b ∧ b ≤ facAt l a ∧ 2 ≤ c ∧ c ≤ a)
abbrev wO : Str := "open"
abbrev wC' : Str := "close"
abbrev wM : Str := "move"
abbrev wT : Str := "turn"
def stepB (k : Kind) (l : List Int) : D → Bool
  | .tup [.str w, .int a, .int b] => if w = wO then openB l a b else if w = wC' then closeB k l a b else false
  | .tup [.str w, .int a, .int b, .int c] => if w = wM then moveB l a b c else if w = wT then turnB l a b c else false
  | _ => false
/-- the factor at a degree behind a step -/
def behZ (k : Kind) (l : List Int) (s a b i : Int) : Int := facAt l i + (if i = a then -(s * b) else 0) + s * b * cntK k (i - a + 1)
def behF (k : Kind) (l : List Int) : D → Int → Int
  | .tup [.str w, .int a, .int b] => if w = wO then behZ k l 1 a b else if w = wC' then behZ k l (-1) a b else facAt l
  | _ => facAt l
theorem behZ_out {k : Kind} {l : List Int} {s a b i : Int} (h1 : i ≠ a) (h2 : ∀ p ∈ k, a - 1 + p.2 ≠ i) : behZ k l s a b i = facAt l i := by
  unfold behZ
  rw [if_neg h1, cntK_out (fun p hp e => h2 p hp (by omega)), Int.mul_zero]
  omega
theorem behF_nn {k : Kind} {l : List Int} (hl : ∀ i ∈ l, 0 ≤ i) {d : D} (h : stepB k l d = true) (i : Int) : 0 ≤ behF k l d i := by
  have hf := facAt_nn hl i
  unfold stepB at h
  split at h
  · rename_i w a b
    unfold behF
    dsimp only
    by_cases e1 : w = wO
    · rw [if_pos e1] at h ⊢
      obtain ⟨h1, h2, h3⟩ := of_decide_eq_true h
      unfold behZ
      have h4 : 0 ≤ 1 * b * cntK k (i - a + 1) := Int.mul_nonneg (by omega) (cntK_nn _ _)
      split
      · rename_i e; subst e; omega
      · omega
    · rw [if_neg e1] at h ⊢
      by_cases e2 : w = wC'
      · rw [if_pos e2] at h ⊢
        obtain ⟨h1, h2, h3⟩ := of_decide_eq_true h
        unfold behZ
        have h4 : 0 ≤ facAt l i + -1 * b * cntK k (i - a + 1) := by
          by_cases hp : ∃ p ∈ k, p.2 = i - a + 1
          · obtain ⟨p, hp, e⟩ := hp
            have := h3 p hp
            rw [e, show a - 1 + (i - a + 1) = i by omega] at this
            have e2 : -1 * b * cntK k (i - a + 1) = -(b * cntK k (i - a + 1)) := by rw [Int.mul_assoc, Int.neg_mul, Int.one_mul]
            omega
          · rw [cntK_out (fun p h1 e => hp ⟨p, h1, e⟩), Int.mul_zero]
            omega
        split <;> omega
      · rw [if_neg e2] at h; cases h
  · unfold behF; exact hf
  · cases h
/-- where what lies behind a step may be other than 0 -/
theorem behF_far {k : Kind} (hk : ∀ p ∈ k, 0 ≤ p.2 ∧ p.2 ≤ 4) (h0 : ∃ t, (t, 0) ∈ k) {l : List Int} {d : D} (h : stepB k l d = true) {n : Nat} (hn : l.length + 4 ≤ n) : behF k l d (n : Nat) = 0 := by
  have hf : facAt l (n : Nat) = 0 := facAt_out (by omega)
  unfold stepB at h
  split at h
  · rename_i w a b
    unfold behF
    dsimp only
    by_cases e1 : w = wO
    · rw [if_pos e1] at h ⊢
      obtain ⟨h1, h2, h3⟩ := of_decide_eq_true h
      have := facAt_pos (l := l) (i := a) (by omega)
      rw [behZ_out (by omega) (fun p hp => by have := hk p hp; omega), hf]
    · rw [if_neg e1] at h ⊢
      by_cases e2 : w = wC'
      · rw [if_pos e2] at h ⊢
        obtain ⟨h1, h2, h3⟩ := of_decide_eq_true h
        obtain ⟨t, h0⟩ := h0
        have far : ∀ p ∈ k, a - 1 + p.2 < (l.length : Int) := fun p hp => by
          have h4 := h3 p hp
          have h5 := cntK_pos hp
          have h6 : 1 * 1 ≤ b * cntK k p.2 := Int.mul_le_mul h2 h5 (by decide) (by omega)
          exact (facAt_pos (l := l) (by omega)).2
        have := far _ h0
        rw [behZ_out (by omega) (fun p hp => by have := far p hp; omega), hf]
      · rw [if_neg e2] at h; cases h
  · unfold behF; exact hf
  · cases h
end DL

set_option Elab.async false
set_option maxRecDepth 100000
set_option maxHeartbeats 4000000
/-! S37b: steps, by the program. -/
namespace DL
open PySem PySem.Spec PyProof.Rows L2
local macro_rules | `(tactic| walk_at "dl") => `(tactic| simp (config := {decide := false}) only [e_eqO, k_eo0, k_eo1, k_eo2, k_eo3, e_cnt, k_cn0, k_cn1, k_cn2, k_cn3, isLst_l, cntD_i, e_fld, k_fl1, k_fl2, k_fl3, insD_i, e_setF, k_sf1, k_sf2, q_sf, e_make, k_mk1, k_mk2, k_mk3, e_never, e_callRR, k_rr1, k_rr2, k_rr3, k_rr4, e_itEA, k_ea1, k_ea2, e_itT2, k_i1, k_i2, e_m1, k_m1, k_m1b, k_m2, k_m3, k_m4, e_itZ, k_z1, e_scLen, k_sc, k_scQ, compT_nil, compT_cons, k_t1, k_t2, k_t2b, k_t3, e_chain, k_ch, k_ch0, k_ch1, k_ch2, k_ch3, k_ch4, k_ch5, k_ch6, rev_l, rev_f, rev_t, clear_l, lista_s, max_2, min_2, inA_s, ix_s, mulA_si, seqE_nx, seqE_rt, seqE_bk, seqE_ct, loopE_nx, loopE_rt, loopE_bk, loopE_ct, e_seq, e_next, e_break, e_cont, e_retN, e_var, q_var_d, q_var_o, e_c, con_d, con_o, con_b, conS_d, conS_o, own_l, own_d, own_i, z_d, z_n, z_t, z_w, sl_d, sl_o, frz_d, frz_o, frz_b, q_frz_d, q_frz_o, frzs_nil, frzs_cons, k_fzs, k_fz, thin_d, thin_o, thin_b, k_th, thins_nil, thins_cons, k_ths, k_ts, setR_nil, setR_cons, k_e, e_op, k_op1, k_op2, k_op3, k_op4, e_un, k_un1, k_un2, e_nil, e_cons, k_co1, k_co2, conL_nil, conL_cons, k_cl, k_cl2, e_b, k_b1, k_b2, e_tup, k_tup1, k_tup2, e_lst, k_lst1, k_lst2, e_dct0, k_ret, e_call, k_ca1, k_ca2, k_retR, e_callR, k_cr1, k_cr2, k_cr3, e_tr, k_tr1, k_tr2, k_tr3, e_bl, k_bl, e_and, k_and, e_or, k_or, e_not, k_not, e_if, k_if, e_ifS, k_ifS, e_notV, k_nv1, k_nv2, e_andV, k_av1, k_av2, e_orV, k_ov1, k_ov2, bD_bl, e_sl, k_sl1, k_sl2, k_sl3, k_sl4, e_part, k_pt1, k_pt2, e_noP, e_dget, k_ge1, k_ge1b, k_ge2, k_ge3, k_ge4, dctD_d, keyD_i, keyD_s, e_mut, q_mu0, k_mu1, k_mu2, q_mu3, k_mu4, e_put, k_pu1, k_pu2, k_pu3, k_pu4, q_pu4, k_pu5, e_aug, q_au0, k_au1, k_au2, k_au3, e_asg, k_as1, k_as2, e_par, k_pa1, k_pa2, e_unp, k_up1, k_up2, e_hName, e_hNil, e_hCons, k_hc, e_hTup, e_hWt, e_drop, k_dr, e_ret, k_rt_d, k_rt_o, k_rt_b, q_out_o, q_out_d, forL_nil, forL_cons, k_fo2, e_for, k_fo1, k_wh, e_itS, k_it1, k_it2, k_it3, walk_l, walk_f, walk_t, e_itR1, k_r11, k_r12, e_itR2, k_r21, k_r22, e_itE, k_en1, k_en2, k_en3, list_l, list_f, e_lc, k_lc, k_lcQ, compL_nil, compL_cons, k_c1, k_c2, k_c3, k_c4, e_yes, wip_nil, wip_cons, unw_nil, unw_cons, g_int, f_add, f_sub, f_mul, f_div, f_mod, f_pow, f_lt, f_le, f_gt, f_ge, add_i, add_s, add_l, add_t, mul_i, mul_l, mul_t, neg_i, ix_l, ix_t, sl_l, sl_f, sl_t, len_l, len_f, len_t, len_s, abs_i, int_i, lof_l, lof_f, lof_t, tof_l, tof_f, tof_t, dof_t, app_l, ext_t, ext_l, tru_b, tru_i, tru_l, tru_t, tru_n, augN, subN, is_bl, is_non, ixN4_0, ixN4_1, ixN4_2, ixN4_3, lk_some, lk_ite, lk_map, lk_bind, ixOf, endsF_nx, endsF_dat, endsF_own, atI_0, atI_1, atI_2, atI_3, eqA_l0, eqA_tup0, eqA_int, eqA_non, bne_f, bne_t, sizeLine_eq,
  List.cons_append, List.nil_append, List.getElem?_cons_zero, List.getElem?_cons_succ, List.set_cons_zero, List.set_cons_succ, List.length_cons, List.length_nil, List.replicate, List.take_succ_cons, List.take_zero, List.not_mem_nil, List.mem_cons, List.map_cons, List.map_nil, if_false, if_true, Option.map_some, Option.bind_some, Option.getD_some, Nat.reduceAdd, Nat.reduceSub, Nat.reduceLeDiff, Nat.reduceEqDiff, Nat.succ_ne_zero, Nat.zero_ne_one, Nat.one_ne_zero, List.isEmpty_nil, List.isEmpty_cons, List.length_map, List.isEmpty_map, beq_iff_eq, Bool.not_eq_true, reduceCtorEq, or_false, or_true, false_or, true_or, and_true, true_and, List.cons.injEq, Option.some.injEq, Sl.own.injEq, Own.lst.injEq, exists_eq', not_false_eq_true, forall_const, forall_eq, forall_eq_or_imp, decide_eq_true_eq, Bool.not_true, Bool.not_false, Bool.false_eq_true, ite_self])
theorem max_l' {i : Int} {l : List Int} : gMax [.lst (.int i :: l.map .int)] = some (.d (.int (maxI i l))) := by
  unfold gMax
  dsimp only
  rw [show D.int i :: l.map D.int = (i :: l).map D.int from rfl, intsD_map]
  rfl
theorem sum_l (l : List Int) : gSum [.lst (l.map .int)] = some (.d (.int l.sum)) := by
  unfold gSum
  dsimp only
  rw [intsD_map]; rfl
theorem enumD_rng (A : Nat → D) : ∀ (m s : Nat), enumD s ((List.range' s m).map A) = (List.range' s m).map fun n => .wt [.int (n : Nat), A n]
  | 0, s => rfl
  | m + 1, s => by
    rw [List.range'_succ, List.map_cons, List.map_cons]
    show _ :: enumD (s + 1) _ = _
    rw [enumD_rng A m (s + 1)]
theorem enum0 (A : Nat → D) (m : Nat) : enumD 0 ((List.range m).map A) = (List.range m).map fun n => .wt [.int (n : Nat), A n] := by
  rw [List.range_eq_range']; exact enumD_rng A m 0
def rd_degrees_of (ks : List Nat) : SD :=
  (wRet ks (wLc ks (wItS ks (wVar 0)) (hTup 2 (hCons (hName ks 2) (hCons (hName ks 3) hNil))) wYes (wOp gAdd (wOp (gInt fSub) (wVar 1) (wC (.int 1))) (wVar 3)) [2, 3]))
def sp_degrees_of : DSp := fun args Q _ => ∃ (k : Kind) (i : Int), args = [.dat (kindD k), .dat (.int i)] ∧ k.length ≤ 100 ∧ Q (.own (.lst (k.map fun p => .int (i - 1 + p.2)))) [.dat (kindD k), .dat (.int i)]
theorem pl_degrees_of : PL 4 2 rd_degrees_of sp_degrees_of := fun args QD ED h => by
  obtain ⟨k, i, rfl, hk, h⟩ := h
  refine ⟨rfl, ?_⟩
  unfold rd_degrees_of
  walk_at "dl"
  rw [lk_eq (rfl : walkD (kindD k) = some (k.map pairD))]
  walk_at "dl"
  refine ⟨⟨fun o z => (by cases z), fun o z => (by cases z)⟩, ?_⟩
  refine two_filt (P := fun _ => True) (g := pairD) (g1 := fun p => .str p.1) (g2 := fun p => .int p.2) (f := fun p => .int (i - 1 + p.2)) (pr := fun _ => true) (fun _ => .inl rfl) (fun a Q _ q => ?_) (fun a Q _ q => ?_) rfl rfl k [] (fun _ _ => True.intro) (by simp; omega) ?_
  · walk_at "dl"
    exact q
  · walk_at "dl"
    exact q
  · rw [List.filter_eq_self.mpr (fun _ _ => rfl), List.nil_append]
    walk_at "dl"
    exact h
/-- what pairs add at a degree -/
def addAt (ps : List (Int × Int)) (n : Int) : Int := ((ps.filter fun p => decide (p.1 = n)).map (·.2)).sum
def pairI (p : Int × Int) : D := .tup [.int p.1, .int p.2]
def rd_changed (ks : List Nat) (sp_factor_at : DSp) (sp_trimmed : DSp) : SD :=
  (wSeq (wAsg ks 2 (wB gMax (wCons (wOp gAdd (wLst ks (wCons (wB gLen (wCons (wVar 0) wNil)) wNil)) (wLc ks (wItS ks (wVar 1)) (hTup 2 (hCons (hName ks 6) (hCons (hName ks 7) hNil))) wYes (wOp gAdd (wVar 6) (wC (.int 1))) [6, 7])) wNil)))
  (wSeq (wAsg ks 3 (wLc ks (wItR1 (wCons (wVar 2) wNil)) (hName ks 4) wYes (wB gSum (wCons (wLc ks (wItS ks (wVar 1)) (hTup 2 (hCons (hName ks 6) (hCons (hName ks 7) hNil))) (wBl (wOp (gEqA false) (wVar 6) (wVar 4))) (wVar 7) [6, 7]) wNil)) [4]))
  (wRet ks (wCall ks sp_trimmed (wCons (wLc ks (wItE ks (wCons (wVar 3) wNil)) (hTup 2 (hCons (hName ks 4) (hCons (hName ks 5) hNil))) wYes (wOp gAdd (wCall ks sp_factor_at (wCons (wVar 0) (wCons (wVar 4) wNil))) (wVar 5)) [4, 5]) wNil)))))
def sp_changed : DSp := fun args Q _ => ∃ (l : List Int) (ps : List (Int × Int)), args = [.dat (.tup (l.map .int)), .dat (.lst (ps.map pairI))] ∧ l.length ≤ 1000 ∧ ps.length ≤ 100 ∧ (∀ p ∈ ps, p.1 ≤ 2000) ∧
  ∀ t : List Int, trimZ t = t → (∀ n : Nat, 0 ≤ (n : Int) → getZ t n = facAt l n + addAt ps n) → Q (.dat (.tup (t.map .int))) [.dat (.tup (l.map .int)), .dat (.lst (ps.map pairI))]
theorem pl_changed : PL 8 2 (fun ks => rd_changed ks sp_factor_at sp_trimmed) sp_changed := fun args QD ED h => by
  obtain ⟨l, ps, rfl, hl, hp, hb, h⟩ := h
  refine ⟨rfl, ?_⟩
  unfold rd_changed
  walk_at "dl"
  refine ⟨⟨fun o z => (by cases z), fun o z => (by cases z)⟩, ?_⟩
  refine two_filt (P := fun _ => True) (g := pairI) (g1 := fun p => .int p.1) (g2 := fun p => .int p.2) (f := fun p => .int (p.1 + 1)) (pr := fun _ => true) (fun _ => .inl rfl) (fun a Q _ q => ?_) (fun a Q _ q => ?_) rfl rfl ps [] (fun _ _ => True.intro) (by simp; omega) ?_
  · walk_at "dl"
    exact q
  · walk_at "dl"
    exact q
  rw [List.filter_eq_self.mpr (fun _ _ => rfl), List.nil_append]
  walk_at "dl"
  have e1 : (ps.map fun p => D.int (p.1 + 1)) = (ps.map fun p => p.1 + 1).map D.int := by rw [List.map_map]; rfl
  rw [e1, lk_eq max_l']
  walk_at "dl"
  obtain ⟨g1, g2⟩ := maxI_ge (ps.map fun p => p.1 + 1) (l.length : Int)
  have gm := maxI_mem (ps.map fun p => p.1 + 1) (l.length : Int)
  generalize maxI (l.length : Int) (ps.map fun p => p.1 + 1) = m at g1 g2 gm ⊢
  have mu : m ≤ 2001 := by
    rcases List.mem_cons.mp gm with e | e
    · omega
    · obtain ⟨p, h1, rfl⟩ := List.mem_map.mp e
      have := hb p h1
      omega
  refine ⟨by omega, by omega, by omega, fun o z => (by cases z), ?_⟩
  refine at_comp (P := fun _ => True) (g := fun n : Nat => .int (n : Nat)) (f := fun n => .int (addAt ps (n : Nat))) (fun n Q _ q => ?_) rfl (List.range m.toNat) [] (fun _ _ => True.intro) (by rw [List.length_range]; simp; omega) ?_
  · walk_at "dl"
    refine ⟨⟨fun o z => (by cases z), fun o z => (by cases z)⟩, ?_⟩
    refine two_filt (P := fun _ => True) (g := pairI) (g1 := fun p => .int p.1) (g2 := fun p => .int p.2) (f := fun p => .int p.2) (pr := fun p : Int × Int => decide (p.1 = (n : Int))) (fun _ => .inl rfl) (fun a Q _ q => ?_) (fun a Q _ q => ?_) rfl rfl ps [] (fun _ _ => True.intro) (by simp; omega) ?_
    · walk_at "dl"
      exact q
    · walk_at "dl"
      exact q
    · rw [List.nil_append]
      walk_at "dl"
      have e2 : ((ps.filter fun p : Int × Int => decide (p.1 = (n : Int))).map fun p => D.int p.2) = ((ps.filter fun p : Int × Int => decide (p.1 = (n : Int))).map (·.2)).map D.int := by rw [List.map_map]; rfl
      rw [e2, lk_eq (sum_l _)]
      walk_at "dl"
      exact q
  rw [List.nil_append]
  walk_at "dl"
  rw [enum0]
  refine ⟨⟨fun o z => (by cases z), fun o z => (by cases z)⟩, ?_⟩
  refine two_filt (P := fun _ => True) (g := fun n : Nat => .wt [.int (n : Nat), .int (addAt ps (n : Nat))]) (g1 := fun n => .int (n : Nat)) (g2 := fun n => .int (addAt ps (n : Nat))) (f := fun n => .int (facAt l (n : Nat) + addAt ps (n : Nat))) (pr := fun _ => true) (fun _ => .inr rfl) (fun a Q _ q => ?_) (fun a Q _ q => ?_) rfl rfl (List.range m.toNat) [] (fun _ _ => True.intro) (by rw [List.length_range]; simp; omega) ?_
  · walk_at "dl"
    exact q
  · walk_at "dl"
    refine ⟨l, _, rfl, ?_⟩
    walk_at "dl"
    exact q
  · rw [List.filter_eq_self.mpr (fun _ _ => rfl), List.nil_append]
    walk_at "dl"
    refine ⟨_, (List.range m.toNat).map fun n : Nat => facAt l (n : Nat) + addAt ps (n : Nat), rfl, .inl (by rw [List.map_map]; rfl), by rw [List.length_map, List.length_range]; omega, ?_⟩
    walk_at "dl"
    refine h _ (trimZ_idem _) fun n _ => ?_
    have e3 : getZ (trimZ ((List.range m.toNat).map fun n : Nat => facAt l (n : Nat) + addAt ps (n : Nat))) n = getZ ((List.range m.toNat).map fun n : Nat => facAt l (n : Nat) + addAt ps (n : Nat)) n := trim_at _ _
    rw [e3]
    unfold getZ
    rw [List.getElem?_map]
    by_cases hn : n < m.toNat
    · rw [List.getElem?_range hn]; rfl
    · rw [List.getElem?_eq_none (by rw [List.length_range]; omega)]
      have z1 : facAt l (n : Nat) = 0 := facAt_out (by omega)
      have z2 : addAt ps (n : Nat) = 0 := by
        unfold addAt
        rw [List.filter_eq_nil_iff.mpr fun p hp => ?_]
        · rfl
        · have := g2 (p.1 + 1) (List.mem_map.mpr ⟨p, hp, rfl⟩)
          simp only [decide_eq_true_eq]
          omega
      rw [z1, z2]
      rfl
/-! ### numbers of steps -/
def rd_are_open_numbers (ks : List Nat) (sp_factor_at : DSp) : SD :=
  (wSeq (wUnp ks (wVar 1) (hTup 2 (hCons (hName ks 2) (hCons (hName ks 3) hNil))))
  (wRet ks (wAndV (wOp (gInt fGe) (wVar 2) (wC (.int 1))) (wChain (gInt fLe) (gInt fLe) (wC (.int 1)) (wVar 3) (wCall ks sp_factor_at (wCons (wVar 0) (wCons (wVar 2) wNil)))))))
def sp_are_open_numbers : DSp := fun args Q _ => ∃ (l : List Int) (a b : Int), args = [.dat (.tup (l.map .int)), .dat (.tup [.int a, .int b])] ∧ Q (.dat (.bl (openB l a b))) [.dat (.tup (l.map .int)), .dat (.tup [.int a, .int b])]
theorem pl_are_open_numbers : PL 4 2 (fun ks => rd_are_open_numbers ks sp_factor_at) sp_are_open_numbers := fun args QD ED h => by
  obtain ⟨l, a, b, rfl, h⟩ := h
  refine ⟨rfl, ?_⟩
  unfold rd_are_open_numbers
  walk_at "dl"
  by_cases h1 : 1 ≤ a
  · rw [if_pos h1]
    try walk_at "dl"
    by_cases h2 : 1 ≤ b
    · rw [if_pos h2]
      refine ⟨l, a, rfl, ?_⟩
      walk_at "dl"
      have e : openB l a b = decide (b ≤ facAt l a) := by unfold openB; exact decide_eq_decide.mpr ⟨fun h => h.2.2, fun h => ⟨h1, h2, h⟩⟩
      rw [e] at h
      exact h
    · rw [if_neg h2]
      have e : openB l a b = false := decide_eq_false fun h => h2 h.2.1
      rw [e] at h
      exact h
  · rw [if_neg h1]
    try walk_at "dl"
    have e : openB l a b = false := decide_eq_false fun h => h1 h.1
    rw [e] at h
    exact h
def rd_are_turn_numbers (ks : List Nat) (sp_factor_at : DSp) : SD :=
  (wSeq (wUnp ks (wVar 1) (hTup 3 (hCons (hName ks 2) (hCons (hName ks 3) (hCons (hName ks 4) hNil)))))
  (wRet ks (wAndV (wChain (gInt fLe) (gInt fLe) (wC (.int 1)) (wVar 3) (wCall ks sp_factor_at (wCons (wVar 0) (wCons (wVar 2) wNil)))) (wChain (gInt fLe) (gInt fLe) (wC (.int 2)) (wVar 4) (wVar 2)))))
def sp_are_turn_numbers : DSp := fun args Q _ => ∃ (l : List Int) (a b c : Int), args = [.dat (.tup (l.map .int)), .dat (.tup [.int a, .int b, .int c])] ∧ Q (.dat (.bl (turnB l a b c))) [.dat (.tup (l.map .int)), .dat (.tup [.int a, .int b, .int c])]
theorem pl_are_turn_numbers : PL 5 2 (fun ks => rd_are_turn_numbers ks sp_factor_at) sp_are_turn_numbers := fun args QD ED h => by
  obtain ⟨l, a, b, c, rfl, h⟩ := h
  refine ⟨rfl, ?_⟩
  unfold rd_are_turn_numbers
  walk_at "dl"
  by_cases h2 : 1 ≤ b
  · rw [if_pos h2]
    refine ⟨l, a, rfl, ?_⟩
    walk_at "dl"
    by_cases h3 : b ≤ facAt l a
    · rw [if_pos h3]
      try walk_at "dl"
      by_cases h4 : 2 ≤ c
      · rw [if_pos h4]
        try walk_at "dl"
        have e : turnB l a b c = decide (c ≤ a) := by unfold turnB; exact decide_eq_decide.mpr ⟨fun h => h.2.2.2, fun h => ⟨h2, h3, h4, h⟩⟩
        rw [e] at h
        exact h
      · rw [if_neg h4]
        have e : turnB l a b c = false := decide_eq_false fun h => h4 h.2.2.1
        rw [e] at h
        exact h
    · rw [if_neg h3]
      try walk_at "dl"
      have e : turnB l a b c = false := decide_eq_false fun h => h3 h.2.1
      rw [e] at h
      exact h
  · rw [if_neg h2]
    try walk_at "dl"
    have e : turnB l a b c = false := decide_eq_false fun h => h2 h.1
    rw [e] at h
    exact h
def rd_are_move_numbers (ks : List Nat) (sp_factor_at : DSp) : SD :=
  (wSeq (wUnp ks (wVar 1) (hTup 3 (hCons (hName ks 2) (hCons (hName ks 3) (hCons (hName ks 4) hNil)))))
  (wRet ks (wAndV (wOp (gInt fGe) (wVar 2) (wC (.int 0))) (wAndV (wOp (gInt fGe) (wVar 3) (wC (.int 0))) (wAndV (wOp (gInt fGe) (wVar 4) (wC (.int 1))) (wOp (gInt fLe) (wOp gAdd (wVar 3) (wVar 4)) (wCall ks sp_factor_at (wCons (wVar 0) (wCons (wVar 2) wNil)))))))))
def sp_are_move_numbers : DSp := fun args Q _ => ∃ (l : List Int) (a b c : Int), args = [.dat (.tup (l.map .int)), .dat (.tup [.int a, .int b, .int c])] ∧ Q (.dat (.bl (moveB l a b c))) [.dat (.tup (l.map .int)), .dat (.tup [.int a, .int b, .int c])]
theorem pl_are_move_numbers : PL 5 2 (fun ks => rd_are_move_numbers ks sp_factor_at) sp_are_move_numbers := fun args QD ED h => by
  obtain ⟨l, a, b, c, rfl, h⟩ := h
  refine ⟨rfl, ?_⟩
  unfold rd_are_move_numbers
  walk_at "dl"
  by_cases h1 : 0 ≤ a
  · rw [if_pos h1]
    try walk_at "dl"
    by_cases h2 : 0 ≤ b
    · rw [if_pos h2]
      try walk_at "dl"
      by_cases h3 : 1 ≤ c
      · rw [if_pos h3]
        try walk_at "dl"
        refine ⟨l, a, rfl, ?_⟩
        walk_at "dl"
        have e : moveB l a b c = decide (b + c ≤ facAt l a) := by unfold moveB; exact decide_eq_decide.mpr ⟨fun h => h.2.2.2, fun h => ⟨h1, h2, h3, h⟩⟩
        rw [e] at h
        exact h
      · rw [if_neg h3]
        try walk_at "dl"
        have e : moveB l a b c = false := decide_eq_false fun h => h3 h.2.2.1
        rw [e] at h
        exact h
    · rw [if_neg h2]
      try walk_at "dl"
      have e : moveB l a b c = false := decide_eq_false fun h => h2 h.2.1
      rw [e] at h
      exact h
  · rw [if_neg h1]
    try walk_at "dl"
    have e : moveB l a b c = false := decide_eq_false fun h => h1 h.1
    rw [e] at h
    exact h
theorem cnt_deg (k : Kind) (a : Int) (p : Str × Int) : (((k.map fun q => a - 1 + q.2).count (a - 1 + p.2) : Nat) : Int) = cntK k p.2 := by
  unfold cntK
  congr 1
  rw [List.count_eq_countP, List.count_eq_countP, List.countP_map, List.countP_map]
  congr 1
  funext q
  show (a - 1 + q.2 == a - 1 + p.2) = (q.2 == p.2)
  by_cases h : q.2 = p.2
  · rw [h]; simp
  · rw [beq_eq_false_iff_ne.mpr h, beq_eq_false_iff_ne.mpr (by omega)]
def rd_are_close_numbers (ks : List Nat) (sp_factor_at : DSp) (sp_degrees_of : DSp) : SD :=
  (wSeq (wUnp ks (wVar 2) (hTup 2 (hCons (hName ks 3) (hCons (hName ks 4) hNil))))
  (wSeq (wIfS (wOr (wBl (wOp (gInt fLt) (wVar 3) (wC (.int 1)))) (wBl (wOp (gInt fLt) (wVar 4) (wC (.int 1))))) (wRet ks (wC (.bl false))) wNext)
  (wSeq (wAsg ks 5 (wCall ks sp_degrees_of (wCons (wVar 0) (wCons (wVar 3) wNil))))
  (wRet ks (wB gAll (wCons (wLc ks (wItS ks (wVar 5)) (hName ks 6) wYes (wOp (gInt fLe) (wOp gMul (wVar 4) (wCnt (wVar 5) (wCons (wVar 6) wNil))) (wCall ks sp_factor_at (wCons (wVar 1) (wCons (wVar 6) wNil)))) [6]) wNil))))))
def sp_are_close_numbers : DSp := fun args Q _ => ∃ (k : Kind) (l : List Int) (a b : Int), args = [.dat (kindD k), .dat (.tup (l.map .int)), .dat (.tup [.int a, .int b])] ∧ k.length ≤ 100 ∧ b.natAbs < 2 ^ 1000 ∧ Q (.dat (.bl (closeB k l a b))) [.dat (kindD k), .dat (.tup (l.map .int)), .dat (.tup [.int a, .int b])]
theorem mul_small {b : Int} {c : Nat} (hb : b.natAbs < 2 ^ 1000) (hc : c ≤ 100) : b.natAbs.log2 + (c : Int).natAbs.log2 < 1000000 := by
  have h1 := log2_of hb (by decide)
  have h2 : (c : Int).natAbs.log2 ≤ (c : Int).natAbs := Nat.log2_le_self _
  omega
theorem pl_are_close_numbers : PL 7 3 (fun ks => rd_are_close_numbers ks sp_factor_at sp_degrees_of) sp_are_close_numbers := fun args QD ED h => by
  obtain ⟨k, l, a, b, rfl, hk, hb, h⟩ := h
  refine ⟨rfl, ?_⟩
  unfold rd_are_close_numbers
  walk_at "dl"
  by_cases h1 : a < 1
  · rw [if_pos h1]
    have e : closeB k l a b = false := decide_eq_false fun h => by have := h.1; omega
    rw [e] at h
    exact h
  rw [if_neg h1]
  try walk_at "dl"
  by_cases h2 : b < 1
  · rw [if_pos h2]
    have e : closeB k l a b = false := decide_eq_false fun h => by have := h.2.1; omega
    rw [e] at h
    exact h
  rw [if_neg h2]
  try walk_at "dl"
  refine ⟨k, a, rfl, hk, ?_⟩
  walk_at "dl"
  refine ⟨fun o z => (by cases z), ?_⟩
  refine at_comp (P := fun p => p ∈ k) (g := fun p : Str × Int => .int (a - 1 + p.2)) (f := fun p => .bl (decide (b * cntK k p.2 ≤ facAt l (a - 1 + p.2)))) (fun p Q hp q => ?_) rfl k [] (fun _ h => h) (by simp; omega) ?_
  · walk_at "dl"
    have e1 : intsD (k.map fun p => D.int (a - 1 + p.2)) = some (k.map fun p => a - 1 + p.2) := by
      rw [← intsD_map, List.map_map]; rfl
    rw [e1]
    walk_at "dl"
    rw [cnt_deg]
    have hc : (k.map (·.2)).count p.2 ≤ 100 := Nat.le_trans (List.count_le_length) (by rw [List.length_map]; exact hk)
    refine ⟨mul_small hb hc, l, _, rfl, ?_⟩
    walk_at "dl"
    exact q
  · rw [List.nil_append]
    walk_at "dl"
    rw [lk_eq (all_map _ k)]
    walk_at "dl"
    have e : closeB k l a b = k.all fun p => decide (b * cntK k p.2 ≤ facAt l (a - 1 + p.2)) := by
      unfold closeB
      refine Bool.eq_iff_iff.mpr ?_
      rw [decide_eq_true_eq, List.all_eq_true]
      exact ⟨fun h p hp => decide_eq_true (h.2.2 p hp), fun h => ⟨by omega, by omega, fun p hp => of_decide_eq_true (h p hp)⟩⟩
    rw [e] at h
    exact h

end DL

set_option Elab.async false
set_option maxRecDepth 100000
set_option maxHeartbeats 4000000
/-! S37c: steps, by the program. -/
namespace DL
open PySem PySem.Spec PyProof.Rows L2
local macro_rules | `(tactic| walk_at "dl") => `(tactic| simp (config := {decide := false}) only [e_eqO, k_eo0, k_eo1, k_eo2, k_eo3, e_cnt, k_cn0, k_cn1, k_cn2, k_cn3, isLst_l, cntD_i, e_fld, k_fl1, k_fl2, k_fl3, insD_i, e_setF, k_sf1, k_sf2, q_sf, e_make, k_mk1, k_mk2, k_mk3, e_never, e_callRR, k_rr1, k_rr2, k_rr3, k_rr4, e_itEA, k_ea1, k_ea2, e_itT2, k_i1, k_i2, e_m1, k_m1, k_m1b, k_m2, k_m3, k_m4, e_itZ, k_z1, e_scLen, k_sc, k_scQ, compT_nil, compT_cons, k_t1, k_t2, k_t2b, k_t3, e_chain, k_ch, k_ch0, k_ch1, k_ch2, k_ch3, k_ch4, k_ch5, k_ch6, rev_l, rev_f, rev_t, clear_l, lista_s, max_2, min_2, inA_s, ix_s, mulA_si, seqE_nx, seqE_rt, seqE_bk, seqE_ct, loopE_nx, loopE_rt, loopE_bk, loopE_ct, e_seq, e_next, e_break, e_cont, e_retN, e_var, q_var_d, q_var_o, e_c, con_d, con_o, con_b, conS_d, conS_o, own_l, own_d, own_i, z_d, z_n, z_t, z_w, sl_d, sl_o, frz_d, frz_o, frz_b, q_frz_d, q_frz_o, frzs_nil, frzs_cons, k_fzs, k_fz, thin_d, thin_o, thin_b, k_th, thins_nil, thins_cons, k_ths, k_ts, setR_nil, setR_cons, k_e, e_op, k_op1, k_op2, k_op3, k_op4, e_un, k_un1, k_un2, e_nil, e_cons, k_co1, k_co2, conL_nil, conL_cons, k_cl, k_cl2, e_b, k_b1, k_b2, e_tup, k_tup1, k_tup2, e_lst, k_lst1, k_lst2, e_dct0, k_ret, e_call, k_ca1, k_ca2, k_retR, e_callR, k_cr1, k_cr2, k_cr3, e_tr, k_tr1, k_tr2, k_tr3, e_bl, k_bl, e_and, k_and, e_or, k_or, e_not, k_not, e_if, k_if, e_ifS, k_ifS, e_notV, k_nv1, k_nv2, e_andV, k_av1, k_av2, e_orV, k_ov1, k_ov2, bD_bl, e_sl, k_sl1, k_sl2, k_sl3, k_sl4, e_part, k_pt1, k_pt2, e_noP, e_dget, k_ge1, k_ge1b, k_ge2, k_ge3, k_ge4, dctD_d, keyD_i, keyD_s, e_mut, q_mu0, k_mu1, k_mu2, q_mu3, k_mu4, e_put, k_pu1, k_pu2, k_pu3, k_pu4, q_pu4, k_pu5, e_aug, q_au0, k_au1, k_au2, k_au3, e_asg, k_as1, k_as2, e_par, k_pa1, k_pa2, e_unp, k_up1, k_up2, e_hName, e_hNil, e_hCons, k_hc, e_hTup, e_hWt, e_drop, k_dr, e_ret, k_rt_d, k_rt_o, k_rt_b, q_out_o, q_out_d, forL_nil, forL_cons, k_fo2, e_for, k_fo1, k_wh, e_itS, k_it1, k_it2, k_it3, walk_l, walk_f, walk_t, e_itR1, k_r11, k_r12, e_itR2, k_r21, k_r22, e_itE, k_en1, k_en2, k_en3, list_l, list_f, e_lc, k_lc, k_lcQ, compL_nil, compL_cons, k_c1, k_c2, k_c3, k_c4, e_yes, wip_nil, wip_cons, unw_nil, unw_cons, g_int, f_add, f_sub, f_mul, f_div, f_mod, f_pow, f_lt, f_le, f_gt, f_ge, add_i, add_s, add_l, add_t, mul_i, mul_l, mul_t, neg_i, ix_l, ix_t, sl_l, sl_f, sl_t, len_l, len_f, len_t, len_s, abs_i, int_i, lof_l, lof_f, lof_t, tof_l, tof_f, tof_t, dof_t, app_l, ext_t, ext_l, tru_b, tru_i, tru_l, tru_t, tru_n, augN, subN, is_bl, is_non, ixN4_0, ixN4_1, ixN4_2, ixN4_3, lk_some, lk_ite, lk_map, lk_bind, ixOf, endsF_nx, endsF_dat, endsF_own, atI_0, atI_1, atI_2, atI_3, eqA_l0, eqA_tup0, eqA_int, eqA_non, bne_f, bne_t, sizeLine_eq,
  List.cons_append, List.nil_append, List.getElem?_cons_zero, List.getElem?_cons_succ, List.set_cons_zero, List.set_cons_succ, List.length_cons, List.length_nil, List.replicate, List.take_succ_cons, List.take_zero, List.not_mem_nil, List.mem_cons, List.map_cons, List.map_nil, if_false, if_true, Option.map_some, Option.bind_some, Option.getD_some, Nat.reduceAdd, Nat.reduceSub, Nat.reduceLeDiff, Nat.reduceEqDiff, Nat.succ_ne_zero, Nat.zero_ne_one, Nat.one_ne_zero, List.isEmpty_nil, List.isEmpty_cons, List.length_map, List.isEmpty_map, beq_iff_eq, Bool.not_eq_true, reduceCtorEq, or_false, or_true, false_or, true_or, and_true, true_and, List.cons.injEq, Option.some.injEq, Sl.own.injEq, Own.lst.injEq, exists_eq', not_false_eq_true, forall_const, forall_eq, forall_eq_or_imp, decide_eq_true_eq, Bool.not_true, Bool.not_false, Bool.false_eq_true, ite_self])
def tab_LENGTHS : List (Str × Option Int) := [("open", some 3), ("close", some 3), ("move", some 4), ("turn", some 4), ("Open", none), ("", none), ("opened", none)]
def wordsT : List Str := ["open", "close", "move", "turn", "Open", "", "opened"]
/-- what a step is looked for in -/
structure StOk (d : D) : Prop where
  ty : TyOk d
  len : ∀ l, d = .tup l → l.length ≤ 1000
  tys : ∀ l, d = .tup l → ∀ e ∈ l, TyOk e
  num : ∀ l i, d = .tup l → .int i ∈ l → i.natAbs < 2 ^ 1000
  wrd : ∀ w r, d = .tup (.str w :: r) → w ∈ wordsT
theorem eq_word {w z : Str} : gEqA false (.str w) (.str z) = some (.d (.bl (decide (w = z)))) := by
  rw [eqA_eq (neg := false) (eqB_str (x := w) (y := z))]
  show some (Z.d (.bl (false != _))) = _
  rw [bne_f]
  first | rfl | (congr 3; by_cases h : w = z <;> simp [h])
theorem ints_orD : ∀ l : List D, (∃ ns : List Int, l = ns.map .int) ∨ l.all intB = false
  | [] => .inl ⟨[], rfl⟩
  | d :: l => by
    rcases ints_orD l with ⟨ns, rfl⟩ | h
    · cases d with
      | int i => exact .inl ⟨i :: ns, rfl⟩
      | _ => exact .inr rfl
    · refine .inr ?_
      rw [List.all_cons, h, Bool.and_false]
def rd_are_numbers (ks : List Nat) (sp_are_turn_numbers : DSp) (sp_are_move_numbers : DSp) (sp_are_close_numbers : DSp) (sp_are_open_numbers : DSp) : SD :=
  (wSeq (wIfS (wBl (wOp (gEqA false) (wVar 2) (wC (.str "open")))) (wRet ks (wCall ks sp_are_open_numbers (wCons (wVar 1) (wCons (wVar 3) wNil)))) wNext)
  (wSeq (wIfS (wBl (wOp (gEqA false) (wVar 2) (wC (.str "close")))) (wRet ks (wCall ks sp_are_close_numbers (wCons (wVar 0) (wCons (wVar 1) (wCons (wVar 3) wNil))))) wNext)
  (wSeq (wIfS (wBl (wOp (gEqA false) (wVar 2) (wC (.str "move")))) (wRet ks (wCall ks sp_are_move_numbers (wCons (wVar 1) (wCons (wVar 3) wNil)))) wNext)
  (wRet ks (wCall ks sp_are_turn_numbers (wCons (wVar 1) (wCons (wVar 3) wNil)))))))
/-- the numbers that a step's word asks -/
def NumsFor (w : Str) (ns : List Int) : Prop := ((w = wO ∨ w = wC') ∧ ∃ a b, ns = [a, b] ∧ b.natAbs < 2 ^ 1000) ∨ ((w = wM ∨ w = wT) ∧ ∃ a b c, ns = [a, b, c])
def sp_are_numbers : DSp := fun args Q _ => ∃ (k : Kind) (l : List Int) (w : Str) (ns : List Int), args = [.dat (kindD k), .dat (.tup (l.map .int)), .dat (.str w), .dat (.tup (ns.map .int))] ∧ k.length ≤ 100 ∧ NumsFor w ns ∧
  Q (.dat (.bl (stepB k l (.tup (.str w :: ns.map .int))))) [.dat (kindD k), .dat (.tup (l.map .int)), .dat (.str w), .dat (.tup (ns.map .int))]
theorem pl_are_numbers : PL 4 4 (fun ks => rd_are_numbers ks sp_are_turn_numbers sp_are_move_numbers sp_are_close_numbers sp_are_open_numbers) sp_are_numbers := fun args QD ED h => by
  obtain ⟨k, l, w, ns, rfl, hk, hn, h⟩ := h
  refine ⟨rfl, ?_⟩
  unfold rd_are_numbers
  walk_at "dl"
  rw [lk_eq (eq_word (w := w) (z := "open"))]
  walk_at "dl"
  rcases hn with ⟨hw, a, b, rfl, hb⟩ | ⟨hw, a, b, c, rfl⟩
  · rcases hw with rfl | rfl
    · try rw [if_pos rfl]
      refine ⟨l, a, b, rfl, ?_⟩
      walk_at "dl"
      exact h
    · rw [if_neg (by decide), lk_eq eq_word]
      walk_at "dl"
      try rw [if_pos rfl]
      refine ⟨k, l, a, b, rfl, hk, hb, ?_⟩
      walk_at "dl"
      exact h
  · rcases hw with rfl | rfl
    · rw [if_neg (by decide), lk_eq eq_word]
      walk_at "dl"
      rw [if_neg (by decide), lk_eq eq_word]
      walk_at "dl"
      try rw [if_pos rfl]
      refine ⟨l, a, b, c, rfl, ?_⟩
      walk_at "dl"
      exact h
    · rw [if_neg (by decide), lk_eq eq_word]
      walk_at "dl"
      rw [if_neg (by decide), lk_eq eq_word]
      walk_at "dl"
      rw [if_neg (by decide)]
      refine ⟨l, a, b, c, rfl, ?_⟩
      walk_at "dl"
      exact h
def rd_is_step_at (ks : List Nat) (TB_LENGTHS : Addr) (sp_are_numbers : DSp) (sp_is_integer : DSp) : SD :=
  (wSeq (wIfS (wOr (wNot (wTr (wB gIsi (wCons (wVar 2) (wCons (wC (.ty "tuple")) wNil))))) (wOr (wBl (wOp (gInt fLt) (wB gLen (wCons (wVar 2) wNil)) (wC (.int 3)))) (wOr (wNot (wTr (wB gIsi (wCons (wOp gIx (wVar 2) (wC (.int 0))) (wCons (wC (.ty "str")) wNil))))) (wBl (wOp (gInTab true TB_LENGTHS tab_LENGTHS) (wOp gIx (wVar 2) (wC (.int 0))) (wC (.cls TB_LENGTHS))))))) (wRet ks (wC (.bl false))) wNext)
  (wSeq (wIfS (wOr (wBl (wOp (gEqA true) (wB gLen (wCons (wVar 2) wNil)) (wOp (gIxTab TB_LENGTHS tab_LENGTHS) (wC (.cls TB_LENGTHS)) (wOp gIx (wVar 2) (wC (.int 0)))))) (wNot (wTr (wB gAll (wCons (wLc ks (wItS ks (wSl gSl (wVar 2) (wPart (wC (.int 1))) wNoP)) (hName ks 3) wYes (wCall ks sp_is_integer (wCons (wVar 3) wNil)) [3]) wNil))))) (wRet ks (wC (.bl false))) wNext)
  (wRet ks (wCall ks sp_are_numbers (wCons (wVar 0) (wCons (wVar 1) (wCons (wOp gIx (wVar 2) (wC (.int 0))) (wCons (wSl gSl (wVar 2) (wPart (wC (.int 1))) wNoP) wNil))))))))
def sp_is_step_at : DSp := fun args Q _ => ∃ (k : Kind) (l : List Int) (d : D), args = [.dat (kindD k), .dat (.tup (l.map .int)), .dat d] ∧ k.length ≤ 100 ∧ StOk d ∧ Q (.dat (.bl (stepB k l d))) [.dat (kindD k), .dat (.tup (l.map .int)), .dat d]
theorem no_step_len {k : Kind} {l : List Int} {m : List D} (h : m.length ≠ 3) (h' : m.length ≠ 4) : stepB k l (.tup m) = false := by
  unfold stepB
  split
  · rename_i e; cases e; exact absurd rfl h
  · rename_i e; cases e; exact absurd rfl h'
  · rfl
theorem no_step_head {k : Kind} {l : List Int} {e : D} {m : List D} (h : strB e = false) : stepB k l (.tup (e :: m)) = false := by
  unfold stepB
  split
  · rename_i e; cases e; cases h
  · rename_i e; cases e; cases h
  · rfl
theorem no_step_ints {k : Kind} {l : List Int} {e : D} {m : List D} (h : m.all intB = false) : stepB k l (.tup (e :: m)) = false := by
  unfold stepB
  split
  · rename_i e; cases e; cases h
  · rename_i e; cases e; cases h
  · rfl
theorem no_step_word {k : Kind} {l : List Int} {w : Str} {m : List D} (h1 : w ≠ wO) (h2 : w ≠ wC') (h3 : w ≠ wM) (h4 : w ≠ wT) : stepB k l (.tup (.str w :: m)) = false := by
  unfold stepB
  split
  · rename_i e; cases e; rw [if_neg h1, if_neg h2]
  · rename_i e; cases e; rw [if_neg h3, if_neg h4]
  · rfl
theorem no_step_3 {k : Kind} {l : List Int} {w : Str} {m : List D} (h1 : w ≠ wO) (h2 : w ≠ wC') (h : m.length = 2) : stepB k l (.tup (.str w :: m)) = false := by
  unfold stepB
  split
  · rename_i e; cases e; rw [if_neg h1, if_neg h2]
  · rename_i e; cases e; cases h
  · rfl
theorem no_step_4 {k : Kind} {l : List Int} {w : Str} {m : List D} (h1 : w ≠ wM) (h2 : w ≠ wT) (h : m.length = 3) : stepB k l (.tup (.str w :: m)) = false := by
  unfold stepB
  split
  · rename_i e; cases e; cases h
  · rename_i e; cases e; rw [if_neg h1, if_neg h2]
  · rfl
/-- a word's length of a step -/
def lenOf (w : Str) : Option Int := if w = wO ∨ w = wC' then some 3 else if w = wM ∨ w = wT then some 4 else none
theorem tab_at {w : Str} (h : w ∈ wordsT) : tab_LENGTHS.lookup w = some (lenOf w) := by
  simp only [wordsT, List.mem_cons, List.not_mem_nil, or_false] at h
  rcases h with rfl | rfl | rfl | rfl | rfl | rfl | rfl <;> decide +kernel
theorem inTab_w {w : Str} {a : Addr} (h : w ∈ wordsT) : gInTab true a tab_LENGTHS (.str w) (.cls a) = some (.d (.bl (true != (lenOf w).isSome))) := by
  unfold gInTab
  dsimp only
  rw [if_pos rfl, tab_at h]; rfl
theorem ixTab_w {w : Str} {a : Addr} {n : Int} (h : w ∈ wordsT) (e : lenOf w = some n) : gIxTab a tab_LENGTHS (.cls a) (.str w) = some (.d (.int n)) := by
  unfold gIxTab
  dsimp only
  rw [if_pos rfl, tab_at h, e]; rfl
theorem lenOf_none {w : Str} (h : lenOf w = none) : w ≠ wO ∧ w ≠ wC' ∧ w ≠ wM ∧ w ≠ wT := by
  unfold lenOf at h
  split at h
  · cases h
  · rename_i h1
    split at h
    · cases h
    · rename_i h2
      exact ⟨fun e => h1 (.inl e), fun e => h1 (.inr e), fun e => h2 (.inl e), fun e => h2 (.inr e)⟩
theorem pl_is_step_at (TB : Addr) : PL 4 3 (fun ks => rd_is_step_at ks TB sp_are_numbers sp_is_integer) sp_is_step_at := fun args QD ED h => by
  obtain ⟨k, l, d, rfl, hk, hd, h⟩ := h
  refine ⟨rfl, ?_⟩
  unfold rd_is_step_at
  walk_at "dl"
  rw [lk_eq (isi_tupT hd.ty)]
  walk_at "dl"
  rcases tup_orB d with ⟨m, rfl⟩ | hs
  case inr =>
    rw [hs]
    try walk_at "dl"
    have e : stepB k l d = false := by cases d <;> first | rfl | cases hs
    rw [e] at h
    exact h
  rw [show tupB (.tup m) = true from rfl]
  try walk_at "dl"
  have hlen := hd.len m rfl
  by_cases h3 : (m.length : Int) < 3
  · rw [if_pos h3]
    try walk_at "dl"
    rw [no_step_len (by omega) (by omega)] at h
    exact h
  rw [if_neg h3]
  obtain ⟨e0, r, rfl⟩ : ∃ e0 r, m = e0 :: r := by cases m with | nil => simp at h3 | cons a b => exact ⟨a, b, rfl⟩
  try walk_at "dl"
  have he0 := hd.tys _ rfl e0 List.mem_cons_self
  rw [lk_eq (isi_strT he0)]
  walk_at "dl"
  rcases str_orB e0 with ⟨w, rfl⟩ | hs
  case inr =>
    rw [hs]
    try walk_at "dl"
    rw [no_step_head hs] at h
    exact h
  rw [show strB (.str w) = true from rfl]
  try walk_at "dl"
  have hw := hd.wrd w r rfl
  rw [lk_eq (inTab_w hw)]
  try walk_at "dl"
  by_cases hn : lenOf w = none
  · rw [hn]
    try walk_at "dl"
    obtain ⟨n1, n2, n3, n4⟩ := lenOf_none hn
    rw [no_step_word n1 n2 n3 n4] at h
    exact h
  obtain ⟨n, hn⟩ := Option.ne_none_iff_exists'.mp hn
  rw [hn]
  try walk_at "dl"
  rw [lk_eq (ixTab_w hw hn)]
  try walk_at "dl"
  rw [if_neg (by simp)]
  by_cases hl : ((r.length + 1 : Nat) : Int) = n
  case neg =>
    rw [if_pos (by simp; omega)]
    unfold lenOf at hn
    have h3' : ¬ ((r.length + 1 : Nat) : Int) < 3 := h3
    split at hn
    · rename_i hz
      cases hn
      by_cases h4 : r.length = 3
      · rw [no_step_4 (by rcases hz with rfl | rfl <;> decide) (by rcases hz with rfl | rfl <;> decide) h4] at h
        exact h
      · rw [no_step_len (by rw [List.length_cons]; omega) (by rw [List.length_cons]; omega)] at h
        exact h
    · split at hn
      · rename_i hz
        cases hn
        by_cases h4 : r.length = 2
        · rw [no_step_3 (by rcases hz with rfl | rfl <;> decide) (by rcases hz with rfl | rfl <;> decide) h4] at h
          exact h
        · rw [no_step_len (by rw [List.length_cons]; omega) (by rw [List.length_cons]; omega)] at h
          exact h
      · cases hn
  rw [if_neg (by rw [hl]; simp)]
  refine ⟨fun o z => (by cases z), ?_⟩
  rw [show cutD (.str w :: r) (some 1) none = r.map (fun e => e) from by rw [List.map_id']; exact cutD_from 1]
  refine at_comp (P := fun e => e ∈ r) (g := fun e => e) (f := fun e => .bl (intB e)) (fun e Q he q => ?_) rfl r [] (fun _ h => h) (by rw [List.length_cons] at hlen; simp; omega) ?_
  · walk_at "dl"
    refine ⟨e, rfl, hd.tys _ rfl _ (List.mem_cons_of_mem _ he), ?_⟩
    walk_at "dl"
    exact q
  rw [List.nil_append]
  walk_at "dl"
  rw [lk_eq (all_map intB r)]
  walk_at "dl"
  rcases ints_orD r with ⟨ns, rfl⟩ | hi
  case inr =>
    rw [hi]
    try walk_at "dl"
    rw [no_step_ints hi] at h
    exact h
  have ha : (ns.map D.int).all intB = true := List.all_eq_true.mpr fun d hd => by obtain ⟨i, _, rfl⟩ := List.mem_map.mp hd; rfl
  rw [ha, if_neg (by simp)]
  try walk_at "dl"
  have ec : cutD (D.str w :: ns.map D.int) (some 1) none = ns.map D.int := cutD_from 1
  rw [ec]
  rw [List.length_map] at hl
  refine ⟨k, l, w, ns, rfl, hk, ?_, ?_⟩
  · unfold lenOf at hn
    split at hn
    · rename_i hz
      cases hn
      refine .inl ⟨hz, ?_⟩
      match ns, hl with
      | [a, b], _ => exact ⟨a, b, rfl, hd.num _ b rfl (by simp)⟩
      | [], hl => simp at hl
      | [_], hl => simp at hl
      | _ :: _ :: _ :: _, hl => simp at hl; omega
    · split at hn
      · rename_i hz
        cases hn
        refine .inr ⟨hz, ?_⟩
        match ns, hl with
        | [a, b, c], _ => exact ⟨a, b, c, rfl⟩
        | [], hl => simp at hl
        | [_], hl => simp at hl
        | [_, _], hl => simp at hl
        | _ :: _ :: _ :: _ :: _, hl => simp at hl; omega
      · cases hn
  · walk_at "dl"
    exact h
theorem lay_f {t : List Int} : List.lookup fF (layF t) = some (.tup (t.map .int)) := rfl
theorem lay_k {t : List Int} : List.lookup fK (layF t) = some (.tup [.int ((t.length : Int) - 1), .tup ((t.map D.int).reverse)]) := rfl
def rd_is_step (ks : List Nat) (LC : Addr) (sp_is_step_at : DSp) : SD :=
  (wRet ks (wCall ks sp_is_step_at (wCons (wVar 0) (wCons (wFld LC "factors" (wVar 1)) (wCons (wVar 2) wNil)))))
def sp_is_step (LC : Addr) : DSp := fun args Q _ => ∃ (k : Kind) (l : List Int) (d : D), args = [.dat (kindD k), .dat (.ins LC (layF (trimZ l))), .dat d] ∧ k.length ≤ 100 ∧ StOk d ∧ Q (.dat (.bl (stepB k l d))) [.dat (kindD k), .dat (.ins LC (layF (trimZ l))), .dat d]
theorem stepB_congr {k : Kind} {l l' : List Int} (e : ∀ i, facAt l i = facAt l' i) (d : D) : stepB k l d = stepB k l' d := by
  unfold stepB openB closeB moveB turnB
  simp only [e]
theorem stepB_trim (k : Kind) (l : List Int) (d : D) : stepB k (trimZ l) d = stepB k l d := stepB_congr (facAt_trim l) d
theorem behF_trim (k : Kind) (l : List Int) (d : D) (i : Int) : behF k (trimZ l) d i = behF k l d i := by
  unfold behF behZ
  split
  · split
    · simp only [facAt_trim]
    · split <;> simp only [facAt_trim]
  · exact facAt_trim l i
theorem pl_is_step (LC : Addr) : PL 3 3 (fun ks => rd_is_step ks LC sp_is_step_at) (sp_is_step LC) := fun args QD ED h => by
  obtain ⟨k, l, d, rfl, hk, hd, h⟩ := h
  refine ⟨rfl, ?_⟩
  unfold rd_is_step
  walk_at "dl"
  rw [lk_eq lay_f]
  walk_at "dl"
  refine ⟨k, trimZ l, d, rfl, hk, hd, ?_⟩
  walk_at "dl"
  rw [stepB_trim]
  exact h

end DL

set_option Elab.async false
set_option maxRecDepth 100000
set_option maxHeartbeats 4000000
/-! S37d: what lies behind a step. -/
namespace DL
open PySem PySem.Spec PyProof.Rows L2
local macro_rules | `(tactic| walk_at "dl") => `(tactic| simp (config := {decide := false}) only [e_eqO, k_eo0, k_eo1, k_eo2, k_eo3, e_cnt, k_cn0, k_cn1, k_cn2, k_cn3, isLst_l, cntD_i, e_fld, k_fl1, k_fl2, k_fl3, insD_i, e_setF, k_sf1, k_sf2, q_sf, e_make, k_mk1, k_mk2, k_mk3, e_never, e_callRR, k_rr1, k_rr2, k_rr3, k_rr4, e_itEA, k_ea1, k_ea2, e_itT2, k_i1, k_i2, e_m1, k_m1, k_m1b, k_m2, k_m3, k_m4, e_itZ, k_z1, e_scLen, k_sc, k_scQ, compT_nil, compT_cons, k_t1, k_t2, k_t2b, k_t3, e_chain, k_ch, k_ch0, k_ch1, k_ch2, k_ch3, k_ch4, k_ch5, k_ch6, rev_l, rev_f, rev_t, clear_l, lista_s, max_2, min_2, inA_s, ix_s, mulA_si, seqE_nx, seqE_rt, seqE_bk, seqE_ct, loopE_nx, loopE_rt, loopE_bk, loopE_ct, e_seq, e_next, e_break, e_cont, e_retN, e_var, q_var_d, q_var_o, e_c, con_d, con_o, con_b, conS_d, conS_o, own_l, own_d, own_i, z_d, z_n, z_t, z_w, sl_d, sl_o, frz_d, frz_o, frz_b, q_frz_d, q_frz_o, frzs_nil, frzs_cons, k_fzs, k_fz, thin_d, thin_o, thin_b, k_th, thins_nil, thins_cons, k_ths, k_ts, setR_nil, setR_cons, k_e, e_op, k_op1, k_op2, k_op3, k_op4, e_un, k_un1, k_un2, e_nil, e_cons, k_co1, k_co2, conL_nil, conL_cons, k_cl, k_cl2, e_b, k_b1, k_b2, e_tup, k_tup1, k_tup2, e_lst, k_lst1, k_lst2, e_dct0, k_ret, e_call, k_ca1, k_ca2, k_retR, e_callR, k_cr1, k_cr2, k_cr3, e_tr, k_tr1, k_tr2, k_tr3, e_bl, k_bl, e_and, k_and, e_or, k_or, e_not, k_not, e_if, k_if, e_ifS, k_ifS, e_notV, k_nv1, k_nv2, e_andV, k_av1, k_av2, e_orV, k_ov1, k_ov2, bD_bl, e_sl, k_sl1, k_sl2, k_sl3, k_sl4, e_part, k_pt1, k_pt2, e_noP, e_dget, k_ge1, k_ge1b, k_ge2, k_ge3, k_ge4, dctD_d, keyD_i, keyD_s, e_mut, q_mu0, k_mu1, k_mu2, q_mu3, k_mu4, e_put, k_pu1, k_pu2, k_pu3, k_pu4, q_pu4, k_pu5, e_aug, q_au0, k_au1, k_au2, k_au3, e_asg, k_as1, k_as2, e_par, k_pa1, k_pa2, e_unp, k_up1, k_up2, e_hName, e_hNil, e_hCons, k_hc, e_hTup, e_hWt, e_drop, k_dr, e_ret, k_rt_d, k_rt_o, k_rt_b, q_out_o, q_out_d, forL_nil, forL_cons, k_fo2, e_for, k_fo1, k_wh, e_itS, k_it1, k_it2, k_it3, walk_l, walk_f, walk_t, e_itR1, k_r11, k_r12, e_itR2, k_r21, k_r22, e_itE, k_en1, k_en2, k_en3, list_l, list_f, e_lc, k_lc, k_lcQ, compL_nil, compL_cons, k_c1, k_c2, k_c3, k_c4, e_yes, wip_nil, wip_cons, unw_nil, unw_cons, g_int, f_add, f_sub, f_mul, f_div, f_mod, f_pow, f_lt, f_le, f_gt, f_ge, add_i, add_s, add_l, add_t, mul_i, mul_l, mul_t, neg_i, ix_l, ix_t, sl_l, sl_f, sl_t, len_l, len_f, len_t, len_s, abs_i, int_i, lof_l, lof_f, lof_t, tof_l, tof_f, tof_t, dof_t, app_l, ext_t, ext_l, tru_b, tru_i, tru_l, tru_t, tru_n, augN, subN, is_bl, is_non, ixN4_0, ixN4_1, ixN4_2, ixN4_3, lk_some, lk_ite, lk_map, lk_bind, ixOf, endsF_nx, endsF_dat, endsF_own, atI_0, atI_1, atI_2, atI_3, eqA_l0, eqA_tup0, eqA_int, eqA_non, bne_f, bne_t, sizeLine_eq,
  List.cons_append, List.nil_append, List.getElem?_cons_zero, List.getElem?_cons_succ, List.set_cons_zero, List.set_cons_succ, List.length_cons, List.length_nil, List.replicate, List.take_succ_cons, List.take_zero, List.not_mem_nil, List.mem_cons, List.map_cons, List.map_nil, if_false, if_true, Option.map_some, Option.bind_some, Option.getD_some, Nat.reduceAdd, Nat.reduceSub, Nat.reduceLeDiff, Nat.reduceEqDiff, Nat.succ_ne_zero, Nat.zero_ne_one, Nat.one_ne_zero, List.isEmpty_nil, List.isEmpty_cons, List.length_map, List.isEmpty_map, beq_iff_eq, Bool.not_eq_true, reduceCtorEq, or_false, or_true, false_or, true_or, and_true, true_and, List.cons.injEq, Option.some.injEq, Sl.own.injEq, Own.lst.injEq, exists_eq', not_false_eq_true, forall_const, forall_eq, forall_eq_or_imp, decide_eq_true_eq, Bool.not_true, Bool.not_false, Bool.false_eq_true, ite_self])
/-- what of a kind the steps ask -/
structure KindW (k : Kind) : Prop where
  leaf : ∃ t, (t, 0) ∈ k
  rng : ∀ q ∈ k, 0 ≤ q.2 ∧ q.2 ≤ 4
  len : k.length ≤ 8
theorem KindOk.w {k : Kind} (h : KindOk k) : KindW k := ⟨h.leaf, fun q hq => ⟨(h.rng q hq).1, (h.rng q hq).2.1⟩, h.len⟩
theorem stepB_shape {k : Kind} {l : List Int} {d : D} (h : stepB k l d = true) : (∃ a b, d = .tup [.str wO, .int a, .int b] ∧ openB l a b = true) ∨ (∃ a b, d = .tup [.str wC', .int a, .int b] ∧ closeB k l a b = true) ∨
    (∃ w a b c, d = .tup [.str w, .int a, .int b, .int c] ∧ (w = wM ∨ w = wT)) := by
  unfold stepB at h
  split at h
  · rename_i w a b
    by_cases e1 : w = wO
    · subst e1
      rw [if_pos rfl] at h
      exact .inl ⟨a, b, rfl, h⟩
    · rw [if_neg e1] at h
      by_cases e2 : w = wC'
      · subst e2
        rw [if_pos rfl] at h
        exact .inr (.inl ⟨a, b, rfl, h⟩)
      · rw [if_neg e2] at h; cases h
  · rename_i w a b c
    by_cases e1 : w = wM
    · exact .inr (.inr ⟨w, a, b, c, rfl, .inl e1⟩)
    · rw [if_neg e1] at h
      by_cases e2 : w = wT
      · exact .inr (.inr ⟨w, a, b, c, rfl, .inr e2⟩)
      · rw [if_neg e2] at h; cases h
  · cases h
/-- the factors behind a step -/
structure BehIs (k : Kind) (l : List Int) (d : D) (t : List Int) : Prop where
  tr : trimZ t = t
  at_ : ∀ n : Nat, getZ t n = behF k l d (n : Nat)
theorem BehIs.uniq {k : Kind} {l : List Int} {d : D} {s t : List Int} (a : BehIs k l d s) (b : BehIs k l d t) : s = t := tr_uniq a.tr b.tr fun n => by rw [a.at_, b.at_]
theorem behF_mt {k : Kind} {l : List Int} {w : Str} {a b c : Int} (i : Int) : behF k l (.tup [.str w, .int a, .int b, .int c]) i = facAt l i := rfl
theorem behF_o {k : Kind} {l : List Int} {a b : Int} (i : Int) : behF k l (.tup [.str wO, .int a, .int b]) i = behZ k l 1 a b i := by unfold behF; dsimp only; rw [if_pos rfl]
theorem behF_c {k : Kind} {l : List Int} {a b : Int} (i : Int) : behF k l (.tup [.str wC', .int a, .int b]) i = behZ k l (-1) a b i := by unfold behF; dsimp only; rw [if_neg (by decide), if_pos rfl]
theorem cntK_cons {p : Str × Int} {k : Kind} {n : Int} : cntK (p :: k) n = cntK k n + (if p.2 = n then 1 else 0) := by
  unfold cntK
  rw [List.map_cons, List.count_cons]
  by_cases h : p.2 = n
  · rw [if_pos h, if_pos (by rw [h]; simp)]; omega
  · rw [if_neg h, if_neg (by simp; exact h)]; omega
theorem addAt_cons {p : Int × Int} {ps : List (Int × Int)} {n : Int} : addAt (p :: ps) n = (if p.1 = n then p.2 else 0) + addAt ps n := by
  unfold addAt
  rw [List.filter_cons]
  by_cases h : p.1 = n
  · rw [if_pos (decide_eq_true h), if_pos h, List.map_cons, List.sum_cons]
  · rw [if_neg (by simp [h]), if_neg h, Int.zero_add]
theorem addAt_deg (a c n : Int) : ∀ k : Kind, addAt (k.map fun p => (a - 1 + p.2, c)) n = c * cntK k (n - a + 1)
  | [] => by show (0 : Int) = c * 0; rw [Int.mul_zero]
  | p :: k => by
    rw [List.map_cons, addAt_cons, addAt_deg a c n k, cntK_cons, Int.mul_add]
    by_cases h : p.2 = n - a + 1
    · rw [if_pos (by show a - 1 + p.2 = n; omega), if_pos h, Int.mul_one]; omega
    · rw [if_neg (by show ¬ a - 1 + p.2 = n; omega), if_neg h, Int.mul_zero]; omega
theorem add_beh {k : Kind} {l : List Int} {s a b n : Int} : facAt l n + addAt ((a, -(s * b)) :: k.map fun p => (a - 1 + p.2, s * b)) n = behZ k l s a b n := by
  rw [addAt_cons, addAt_deg]
  unfold behZ
  by_cases h : a = n
  · rw [if_pos h, if_pos h.symm]; omega
  · rw [if_neg h, if_neg (fun z => h z.symm)]; omega
def rd_factors_behind (ks : List Nat) (sp_degrees_of : DSp) (sp_changed : DSp) : SD :=
  (wSeq (wIfS (wBl (wOp (gEqA false) (wOp gIx (wVar 2) (wC (.int 0))) (wC (.str "open")))) (wRet ks (wCall ks sp_changed (wCons (wVar 1) (wCons (wOp gAdd (wLst ks (wCons (wTup ks (wCons (wOp gIx (wVar 2) (wC (.int 1))) (wCons (wUn gNeg (wOp gIx (wVar 2) (wC (.int 2)))) wNil))) wNil)) (wLc ks (wItS ks (wCall ks sp_degrees_of (wCons (wVar 0) (wCons (wOp gIx (wVar 2) (wC (.int 1))) wNil)))) (hName ks 3) wYes (wTup ks (wCons (wVar 3) (wCons (wOp gIx (wVar 2) (wC (.int 2))) wNil))) [3])) wNil)))) wNext)
  (wSeq (wIfS (wBl (wOp (gEqA false) (wOp gIx (wVar 2) (wC (.int 0))) (wC (.str "close")))) (wRet ks (wCall ks sp_changed (wCons (wVar 1) (wCons (wOp gAdd (wLst ks (wCons (wTup ks (wCons (wOp gIx (wVar 2) (wC (.int 1))) (wCons (wOp gIx (wVar 2) (wC (.int 2))) wNil))) wNil)) (wLc ks (wItS ks (wCall ks sp_degrees_of (wCons (wVar 0) (wCons (wOp gIx (wVar 2) (wC (.int 1))) wNil)))) (hName ks 3) wYes (wTup ks (wCons (wVar 3) (wCons (wUn gNeg (wOp gIx (wVar 2) (wC (.int 2)))) wNil))) [3])) wNil)))) wNext)
  (wRet ks (wVar 1))))
def sp_factors_behind : DSp := fun args Q _ => ∃ (k : Kind) (l : List Int) (d : D), args = [.dat (kindD k), .dat (.tup (l.map .int)), .dat d] ∧ KindW k ∧ stepB k l d = true ∧ l.length ≤ 1000 ∧ trimZ l = l ∧
  ∀ t : List Int, BehIs k l d t → Q (.dat (.tup (t.map .int))) [.dat (kindD k), .dat (.tup (l.map .int)), .dat d]
theorem pl_factors_behind : PL 4 3 (fun ks => rd_factors_behind ks sp_degrees_of sp_changed) sp_factors_behind := fun args QD ED h => by
  obtain ⟨k, l, d, rfl, hk, hs, hl, ht, h⟩ := h
  refine ⟨rfl, ?_⟩
  unfold rd_factors_behind
  have hk8 := hk.len
  have core : ∀ (a s b : Int), (∀ n : Nat, behF k l d (n : Nat) = behZ k l s a b (n : Nat)) → (∀ t : List Int, trimZ t = t → (∀ n : Nat, 0 ≤ (n : Int) → getZ t n = facAt l n + addAt ((a, -(s * b)) :: k.map fun p => (a - 1 + p.2, s * b)) n) → BehIs k l d t) := fun a s b hb t h1 h2 => ⟨h1, fun n => by rw [h2 n (by omega), hb, add_beh]⟩
  rcases stepB_shape hs with ⟨a, b, rfl, ho⟩ | ⟨a, b, rfl, hc⟩ | ⟨w, a, b, c, rfl, hw⟩
  · obtain ⟨h1, h2, h3⟩ := of_decide_eq_true ho
    have ha := facAt_pos (l := l) (i := a) (by omega)
    walk_at "dl"
    rw [lk_eq eq_word]
    walk_at "dl"
    try rw [if_pos rfl]
    refine ⟨k, a, rfl, by omega, ?_⟩
    walk_at "dl"
    refine ⟨fun o z => (by cases z), ?_⟩
    refine at_comp (P := fun _ => True) (g := fun p : Str × Int => .int (a - 1 + p.2)) (f := fun p => .tup [.int (a - 1 + p.2), .int b]) (fun p Q _ q => ?_) rfl k [] (fun _ _ => True.intro) (by simp; omega) ?_
    · walk_at "dl"
      exact q
    rw [List.nil_append]
    walk_at "dl"
    refine ⟨by omega, l, (a, -(1 * b)) :: k.map fun p => (a - 1 + p.2, 1 * b), by simp [pairI, List.map_map, Function.comp_def], hl, by rw [List.length_cons, List.length_map]; omega, fun p hp => ?_, fun t h1 h2 => ?_⟩
    · rcases List.mem_cons.mp hp with rfl | hp
      · show a ≤ 2000; omega
      · obtain ⟨q, hq, rfl⟩ := List.mem_map.mp hp
        have := hk.rng q hq
        show a - 1 + q.2 ≤ 2000
        omega
    walk_at "dl"
    exact h t (core a 1 b (fun n => behF_o _) t h1 h2)
  · obtain ⟨h1, h2, h3⟩ := of_decide_eq_true hc
    obtain ⟨t0, h0⟩ := hk.leaf
    have h4 := h3 _ h0
    have h5 := cntK_pos h0
    have h6 : 1 * 1 ≤ b * cntK k (t0, (0 : Int)).2 := Int.mul_le_mul h2 h5 (by decide) (by omega)
    have h7 := facAt_pos (l := l) (i := a - 1 + (t0, (0 : Int)).2) (by omega)
    have h8 : a - 1 + 0 < (l.length : Int) := h7.2
    walk_at "dl"
    rw [lk_eq eq_word]
    walk_at "dl"
    rw [if_neg (by decide), lk_eq eq_word]
    walk_at "dl"
    try rw [if_pos rfl]
    refine ⟨k, a, rfl, by omega, ?_⟩
    walk_at "dl"
    refine ⟨fun o z => (by cases z), ?_⟩
    refine at_comp (P := fun _ => True) (g := fun p : Str × Int => .int (a - 1 + p.2)) (f := fun p => .tup [.int (a - 1 + p.2), .int (-b)]) (fun p Q _ q => ?_) rfl k [] (fun _ _ => True.intro) (by simp; omega) ?_
    · walk_at "dl"
      exact q
    rw [List.nil_append]
    walk_at "dl"
    refine ⟨by omega, l, (a, -((-1) * b)) :: k.map fun p => (a - 1 + p.2, (-1) * b), by simp [pairI, List.map_map, Function.comp_def], hl, by rw [List.length_cons, List.length_map]; omega, fun p hp => ?_, fun t h1 h2 => ?_⟩
    · rcases List.mem_cons.mp hp with rfl | hp
      · show a ≤ 2000; omega
      · obtain ⟨q, hq, rfl⟩ := List.mem_map.mp hp
        have := hk.rng q hq
        show a - 1 + q.2 ≤ 2000
        omega
    walk_at "dl"
    exact h t (core a (-1) b (fun n => behF_c _) t h1 h2)
  · walk_at "dl"
    rw [lk_eq eq_word]
    walk_at "dl"
    rw [if_neg (by rcases hw with rfl | rfl <;> decide), lk_eq eq_word]
    walk_at "dl"
    rw [if_neg (by rcases hw with rfl | rfl <;> decide)]
    exact h l ⟨ht, fun n => by rw [behF_mt, facAt_nat]⟩

def rd_need_step (ks : List Nat) (sp_factors_behind : DSp) (sp_is_step_at : DSp) : SD :=
  (wSeq (wIfS (wNot (wTr (wCall ks sp_is_step_at (wCons (wVar 0) (wCons (wVar 1) (wCons (wVar 2) wNil)))))) wNever wNext)
  (wSeq (wAsg ks 4 (wCall ks sp_factors_behind (wCons (wVar 0) (wCons (wVar 1) (wCons (wVar 2) wNil)))))
  (wSeq (wIfS (wBl (wOp (gInt fGt) (wB gLen (wCons (wVar 4) wNil)) (wOp gAdd (wC (.int 40)) (wC (.int 1))))) wNever wNext)
  (wRet ks (wVar 4)))))
def sp_need_step : DSp := fun args Q _ => ∃ (k : Kind) (l : List Int) (d : D) (i : Int) (t : List Int), args = [.dat (kindD k), .dat (.tup (l.map .int)), .dat d, .dat (.int i)] ∧ KindW k ∧ StOk d ∧ stepB k l d = true ∧ l.length ≤ 1000 ∧ trimZ l = l ∧ BehIs k l d t ∧ t.length ≤ 41 ∧
  Q (.dat (.tup (t.map .int))) [.dat (kindD k), .dat (.tup (l.map .int)), .dat d, .dat (.int i)]
theorem pl_need_step : PL 5 4 (fun ks => rd_need_step ks sp_factors_behind sp_is_step_at) sp_need_step := fun args QD ED h => by
  obtain ⟨k, l, d, i, t, rfl, hk, hd, hs, hl, hz, ht, h41, h⟩ := h
  refine ⟨rfl, ?_⟩
  unfold rd_need_step
  have := hk.len
  walk_at "dl"
  refine ⟨k, l, d, rfl, by omega, hd, ?_⟩
  rw [hs]
  walk_at "dl"
  try rw [if_neg (by decide)]
  refine ⟨k, l, d, rfl, hk, hs, hl, hz, fun t' ht' => ?_⟩
  obtain rfl := ht.uniq ht'
  walk_at "dl"
  rw [if_neg (by omega)]
  exact h
def rd_layout_behind (ks : List Nat) (LC : Addr) (sp_need_step : DSp) (sp_Layout : DSp) : SD :=
  (wRet ks (wMake ks LC sp_Layout (wCons (wCall ks sp_need_step (wCons (wVar 0) (wCons (wFld LC "factors" (wVar 1)) (wCons (wVar 2) (wCons (wC (.int 0)) wNil))))) wNil)))
def sp_layout_behind (LC : Addr) : DSp := fun args Q _ => ∃ (k : Kind) (l : List Int) (d : D) (t : List Int), args = [.dat (kindD k), .dat (.ins LC (layF (trimZ l))), .dat d] ∧ KindW k ∧ StOk d ∧ stepB k l d = true ∧ l.length ≤ 1000 ∧ (∀ i ∈ l, 0 ≤ i) ∧ BehIs k l d t ∧ t.length ≤ 41 ∧
  Q (.own (.ins LC (layF t))) [.dat (kindD k), .dat (.ins LC (layF (trimZ l))), .dat d]
theorem pl_layout_behind (LC : Addr) : PL 3 3 (fun ks => rd_layout_behind ks LC sp_need_step (sp_Layout___init__ LC)) (sp_layout_behind LC) := fun args QD ED h => by
  obtain ⟨k, l, d, t, rfl, hk, hd, hs, hl, hn, ht, h41, h⟩ := h
  refine ⟨rfl, ?_⟩
  unfold rd_layout_behind
  walk_at "dl"
  rw [lk_eq lay_f]
  walk_at "dl"
  have hb : BehIs k (trimZ l) d t := ⟨ht.tr, fun n => by rw [behF_trim]; exact ht.at_ n⟩
  have := trimZ_len l
  refine ⟨k, trimZ l, d, 0, t, rfl, hk, hd, by rw [stepB_trim]; exact hs, by omega, trimZ_idem l, hb, h41, ?_⟩
  walk_at "dl"
  have nn : ∀ i ∈ t, 0 ≤ i := fun i hi => by
    obtain ⟨n, hn', e⟩ := List.mem_iff_getElem.mp hi
    have e2 := ht.at_ n
    unfold getZ at e2
    rw [List.getElem?_eq_getElem hn', e] at e2
    rw [show i = behF k l d (n : Nat) from e2]
    exact behF_nn hn hs _
  refine ⟨_, t, rfl, .inr rfl, ⟨by rw [ht.tr]; exact h41, by omega, nn⟩, ?_⟩
  walk_at "dl"
  rw [ht.tr]
  try walk_at "dl"
  exact h
def rd_Layout_trees (ks : List Nat) (LC : Addr) (sp_Layout : DSp) : SD :=
  (wRet ks (wMake ks LC sp_Layout (wCons (wOp gAdd (wOp gMul (wTup ks (wCons (wC (.int 0)) wNil)) (wVar 0)) (wTup ks (wCons (wC (.int 1)) wNil))) wNil)))
def treesL (n : Nat) : List Int := List.replicate n 0 ++ [1]
theorem treesL_tr (n : Nat) : trimZ (treesL n) = treesL n := trimZ_last (by decide)
def sp_Layout_trees (LC : Addr) : DSp := fun args Q _ => ∃ n : Nat, n ≤ 40 ∧ args = [.dat (.int (n : Nat))] ∧ Q (.own (.ins LC (layF (treesL n)))) [.dat (.int (n : Nat))]
theorem pl_Layout_trees (LC : Addr) : PL 1 1 (fun ks => rd_Layout_trees ks LC (sp_Layout___init__ LC)) (sp_Layout_trees LC) := fun args QD ED h => by
  obtain ⟨n, hn, rfl, h⟩ := h
  refine ⟨rfl, ?_⟩
  unfold rd_Layout_trees
  walk_at "dl"
  have e : (List.replicate (Int.toNat (n : Nat)) [D.int 0]).flatten = List.replicate n (D.int 0) := by rw [Int.toNat_natCast, List.flatten_replicate_singleton]
  rw [e]
  have e2 : List.replicate n (D.int 0) ++ [D.int 1] = (treesL n).map D.int := by unfold treesL; rw [List.map_append, List.map_replicate]; rfl
  have el : (treesL n).length = n + 1 := by unfold treesL; rw [List.length_append, List.length_replicate]; rfl
  refine ⟨⟨by omega, by omega⟩, by rw [List.length_replicate]; omega, _, treesL n, rfl, .inr (by rw [e2]), ⟨by rw [treesL_tr]; omega, by omega, fun i hi => ?_⟩, ?_⟩
  · rcases List.mem_append.mp hi with h | h
    · rw [(List.mem_replicate.mp h).2]; exact Int.le_refl _
    · rw [List.mem_singleton.mp h]; decide
  · walk_at "dl"
    rw [treesL_tr]
    try walk_at "dl"
    exact h
theorem eq_key {a b : Int} {l m : List Int} : gEqA false (.tup [.int a, .tup (l.map .int)]) (.tup [.int b, .tup (m.map .int)]) = some (.d (.bl (decide (a = b ∧ l = m)))) := by
  have e : ∀ (a : Int) (l : List Int), pyD (.tup [.int a, .tup (l.map .int)]) = some (.tuple [.int a, .tuple (l.map PyData.int)]) := fun a l => by
    have h1 : pyD (.tup (l.map D.int)) = some (.tuple (l.map PyData.int)) := by unfold pyD; rw [flat_int.pys]; rfl
    unfold pyD pyDs pyDs pyDs
    rw [h1]
    rfl
  have c : ∀ (a : Int) (l : List Int), (PyData.tuple [.int a, .tuple (l.map PyData.int)]).canLay0 = true := fun a l => by
    have h1 := flat_int.cans l (fun _ _ => True.intro)
    simp [PyData.canLay0, PyData.canLayAll0, h1]
  have dd : ∀ (a : Int) (l : List Int), (PyData.tuple [.int a, .tuple (l.map PyData.int)]).depth ≤ 64 := fun a l => by
    show max 0 (max (PyData.depthAll (l.map PyData.int) + 1) 0) + 1 ≤ 64
    rw [flat_int.deps]
    decide
  rw [eqA_eq (neg := false) (c := decide (a = b ∧ l = m)) ?_]
  · rw [bne_f]
  · unfold gEqB quick
    dsimp only
    rw [if_neg (by simp)]
    dsimp only
    unfold deepEq
    rw [e, e, Option.bind_some, Option.bind_some, if_pos ⟨c a l, c b m, Nat.le_trans (Nat.min_le_left _ _) (dd a l)⟩]
    congr 1
    have h2 := flat_int.eqvs l m
    rw [Bool.eq_iff_iff, decide_eq_true_eq]
    simp only [PyData.eqv, PyData.eqvAll, Bool.and_eq_true, Bool.and_true, beq_iff_eq]
    rw [h2]
def rd_Layout___eq__ (ks : List Nat) (LC : Addr) : SD :=
  (wSeq (wIfS (wNot (wTr (wB (gIsiC LC) (wCons (wVar 1) (wCons (wC (.cls LC)) wNil))))) wNever wNext)
  (wRet ks (wOp (gEqA false) (wFld LC "key" (wVar 0)) (wFld LC "key" (wVar 1)))))
def sp_Layout___eq__ (LC : Addr) : DSp := fun args Q _ => ∃ s t : List Int, args = [.dat (.ins LC (layF s)), .dat (.ins LC (layF t))] ∧ Q (.dat (.bl (decide (s = t)))) [.dat (.ins LC (layF s)), .dat (.ins LC (layF t))]
theorem pl_Layout___eq__ (LC : Addr) : PL 2 2 (fun ks => rd_Layout___eq__ ks LC) (sp_Layout___eq__ LC) := fun args QD ED h => by
  obtain ⟨s, t, rfl, h⟩ := h
  refine ⟨rfl, ?_⟩
  unfold rd_Layout___eq__
  walk_at "dl"
  rw [lk_eq (show gIsiC LC [.ins LC (layF t), .cls LC] = some (.d (.bl true)) from by unfold gIsiC; simp)]
  walk_at "dl"
  try rw [if_neg (by decide)]
  rw [lk_eq lay_k]
  walk_at "dl"
  rw [lk_eq lay_k]
  walk_at "dl"
  rw [← List.map_reverse, ← List.map_reverse, lk_eq eq_key]
  walk_at "dl"
  have e : decide ((s.length : Int) - 1 = (t.length : Int) - 1 ∧ s.reverse = t.reverse) = decide (s = t) := decide_eq_decide.mpr ⟨fun h => List.reverse_inj.mp h.2, fun h => by rw [h]; exact ⟨rfl, rfl⟩⟩
  rw [e]
  exact h

end DL

set_option Elab.async false
set_option maxRecDepth 100000
set_option maxHeartbeats 4000000
/-! DLA: sums and products of layouts. -/
namespace DL
open PySem PySem.Spec PyProof.Rows L2
local macro_rules | `(tactic| walk_at "dl") => `(tactic| simp (config := {decide := false, implicitDefEqProofs := false}) only [e_ixO, k_oi0, k_oi1, k_oi2, e_prop, k_pr1, k_pr2, e_binO, k_bo0, k_bo1, k_bo2, e_eqO, k_eo0, k_eo1, k_eo2, k_eo3, e_cnt, k_cn0, k_cn1, k_cn2, k_cn3, isLst_l, cntD_i, e_fld, k_fl1, k_fl2, k_fl3, insD_i, e_setF, k_sf1, k_sf2, q_sf, e_make, k_mk1, k_mk2, k_mk3, e_never, e_callRR, k_rr1, k_rr2, k_rr3, k_rr4, e_itEA, k_ea1, k_ea2, e_itT2, k_i1, k_i2, e_m1, k_m1, k_m1b, k_m2, k_m3, k_m4, e_itZ, k_z1, e_scLen, k_sc, k_scQ, compT_nil, compT_cons, k_t1, k_t2, k_t2b, k_t3, e_chain, k_ch, k_ch0, k_ch1, k_ch2, k_ch3, k_ch4, k_ch5, k_ch6, rev_l, rev_f, rev_t, clear_l, lista_s, max_2, min_2, inA_s, ix_s, mulA_si, seqE_nx, seqE_rt, seqE_bk, seqE_ct, loopE_nx, loopE_rt, loopE_bk, loopE_ct, e_seq, e_next, e_break, e_cont, e_retN, e_var, q_var_d, q_var_o, e_c, con_d, con_o, con_b, conS_d, conS_o, own_l, own_d, own_i, z_d, z_n, z_t, z_w, sl_d, sl_o, frz_d, frz_o, frz_b, q_frz_d, q_frz_o, frzs_nil, frzs_cons, k_fzs, k_fz, thin_d, thin_o, thin_b, k_th, thins_nil, thins_cons, k_ths, k_ts, setR_nil, setR_cons, k_e, e_op, k_op1, k_op2, k_op3, k_op4, e_un, k_un1, k_un2, e_nil, e_cons, k_co1, k_co2, conL_nil, conL_cons, k_cl, k_cl2, e_b, k_b1, k_b2, e_tup, k_tup1, k_tup2, e_lst, k_lst1, k_lst2, e_dct0, k_ret, e_call, k_ca1, k_ca2, k_retR, e_callR, k_cr1, k_cr2, k_cr3, e_tr, k_tr1, k_tr2, k_tr3, e_bl, k_bl, e_and, k_and, e_or, k_or, e_not, k_not, e_if, k_if, e_ifS, k_ifS, e_notV, k_nv1, k_nv2, e_andV, k_av1, k_av2, e_orV, k_ov1, k_ov2, bD_bl, e_sl, k_sl1, k_sl2, k_sl3, k_sl4, e_part, k_pt1, k_pt2, e_noP, e_dget, k_ge1, k_ge1b, k_ge2, k_ge3, k_ge4, dctD_d, keyD_i, keyD_s, e_mut, q_mu0, k_mu1, k_mu2, q_mu3, k_mu4, e_put, k_pu1, k_pu2, k_pu3, k_pu4, q_pu4, k_pu5, e_aug, q_au0, k_au1, k_au2, k_au3, e_asg, k_as1, k_as2, e_par, k_pa1, k_pa2, e_unp, k_up1, k_up2, e_hName, e_hNil, e_hCons, k_hc, e_hTup, e_hWt, e_drop, k_dr, e_ret, k_rt_d, k_rt_o, k_rt_b, q_out_o, q_out_d, forL_nil, forL_cons, k_fo2, e_for, k_fo1, k_wh, e_itS, k_it1, k_it2, k_it3, walk_l, walk_f, walk_t, e_itR1, k_r11, k_r12, e_itR2, k_r21, k_r22, e_itE, k_en1, k_en2, k_en3, list_l, list_f, e_lc, k_lc, k_lcQ, compL_nil, compL_cons, k_c1, k_c2, k_c3, k_c4, e_yes, wip_nil, wip_cons, unw_nil, unw_cons, g_int, f_add, f_sub, f_mul, f_div, f_mod, f_pow, f_lt, f_le, f_gt, f_ge, add_i, add_s, add_l, add_t, mul_i, mul_l, mul_t, neg_i, ix_l, ix_t, sl_l, sl_f, sl_t, len_l, len_f, len_t, len_s, abs_i, int_i, lof_l, lof_f, lof_t, tof_l, tof_f, tof_t, dof_t, app_l, ext_t, ext_l, tru_b, tru_i, tru_l, tru_t, tru_n, augN, subN, is_bl, is_non, ixN4_0, ixN4_1, ixN4_2, ixN4_3, lk_some, lk_ite, lk_map, lk_bind, ixOf, endsF_nx, endsF_dat, endsF_own, atI_0, atI_1, atI_2, atI_3, eqA_l0, eqA_tup0, eqA_int, eqA_non, bne_f, bne_t, sizeLine_eq,
  List.cons_append, List.nil_append, List.getElem?_cons_zero, List.getElem?_cons_succ, List.set_cons_zero, List.set_cons_succ, List.length_cons, List.length_nil, List.replicate, List.take_succ_cons, List.take_zero, List.not_mem_nil, List.mem_cons, List.map_cons, List.map_nil, if_false, if_true, Option.map_some, Option.bind_some, Option.getD_some, Nat.reduceAdd, Nat.reduceSub, Nat.reduceLeDiff, Nat.reduceEqDiff, Nat.succ_ne_zero, Nat.zero_ne_one, Nat.one_ne_zero, List.isEmpty_nil, List.isEmpty_cons, List.length_map, List.isEmpty_map, beq_iff_eq, Bool.not_eq_true, reduceCtorEq, or_false, or_true, false_or, true_or, and_true, true_and, List.cons.injEq, Option.some.injEq, Sl.own.injEq, Own.lst.injEq, exists_eq', not_false_eq_true, forall_const, forall_eq, forall_eq_or_imp, decide_eq_true_eq, Bool.not_true, Bool.not_false, Bool.false_eq_true, ite_self])
local macro_rules | `(tactic| walk_at "dlf") => `(tactic| simp (config := {decide := false, implicitDefEqProofs := false}) only [e_ixO, k_oi0, k_oi1, k_oi2, e_prop, k_pr1, k_pr2, e_binO, k_bo0, k_bo1, k_bo2, e_eqO, k_eo0, k_eo1, k_eo2, k_eo3, e_cnt, k_cn0, k_cn1, k_cn2, k_cn3, isLst_l, cntD_i, e_fld, k_fl1, k_fl2, k_fl3, insD_i, e_setF, k_sf1, k_sf2, q_sf, e_make, k_mk1, k_mk2, k_mk3, e_never, e_callRR, k_rr1, k_rr2, k_rr3, k_rr4, e_itEA, k_ea1, k_ea2, e_itT2, k_i1, k_i2, e_m1, k_m1, k_m1b, k_m2, k_m3, k_m4, e_itZ, k_z1, e_scLen, k_sc, k_scQ, compT_nil, compT_cons, k_t1, k_t2, k_t2b, k_t3, e_chain, k_ch, k_ch0, k_ch1, k_ch2, k_ch3, k_ch4, k_ch5, k_ch6, rev_l, rev_f, rev_t, clear_l, lista_s, max_2, min_2, inA_s, ix_s, mulA_si, seqE_nx, seqE_rt, seqE_bk, seqE_ct, loopE_nx, loopE_rt, loopE_bk, loopE_ct, e_seq, e_next, e_break, e_cont, e_retN, e_var, q_var_d, q_var_o, e_c, con_d, con_o, con_b, conS_d, conS_o, own_l, own_d, own_i, z_d, z_n, z_t, z_w, sl_d, sl_o, frz_d, frz_o, frz_b, q_frz_d, q_frz_o, frzs_nil, frzs_cons, k_fzs, k_fz, thin_d, thin_o, thin_b, k_th, thins_nil, thins_cons, k_ths, k_ts, setR_nil, setR_cons, k_e, e_op, k_op1, k_op2, k_op3, k_op4, e_un, k_un1, k_un2, e_nil, e_cons, k_co1, k_co2, conL_nil, conL_cons, k_cl, k_cl2, e_b, k_b1, k_b2, e_tup, k_tup1, k_tup2, e_lst, k_lst1, k_lst2, e_dct0, k_ret, e_call, k_ca1, k_ca2, k_retR, e_callR, k_cr1, k_cr2, k_cr3, e_tr, k_tr1, k_tr2, k_tr3, e_bl, k_bl, e_and, k_and, e_or, k_or, e_not, k_not, e_if, k_if, e_ifS, k_ifS, e_notV, k_nv1, k_nv2, e_andV, k_av1, k_av2, e_orV, k_ov1, k_ov2, bD_bl, e_sl, k_sl1, k_sl2, k_sl3, k_sl4, e_part, k_pt1, k_pt2, e_noP, e_dget, k_ge1, k_ge1b, k_ge2, k_ge3, k_ge4, dctD_d, keyD_i, keyD_s, e_mut, q_mu0, k_mu1, k_mu2, q_mu3, k_mu4, e_put, k_pu1, k_pu2, k_pu3, k_pu4, q_pu4, k_pu5, e_aug, q_au0, k_au1, k_au2, k_au3, e_asg, k_as1, k_as2, e_par, k_pa1, k_pa2, e_unp, k_up1, k_up2, e_hName, e_hNil, e_hCons, k_hc, e_hTup, e_hWt, e_drop, k_dr, e_ret, k_rt_d, k_rt_o, k_rt_b, q_out_o, q_out_d, forL_nil, k_fo2, e_for, k_fo1, k_wh, e_itS, k_it1, k_it2, k_it3, walk_l, walk_f, walk_t, e_itR1, k_r11, k_r12, e_itR2, k_r21, k_r22, e_itE, k_en1, k_en2, k_en3, list_l, list_f, e_lc, k_lc, k_lcQ, compL_nil, k_c1, k_c2, k_c3, k_c4, e_yes, wip_nil, wip_cons, unw_nil, unw_cons, g_int, f_add, f_sub, f_mul, f_div, f_mod, f_pow, f_lt, f_le, f_gt, f_ge, add_i, add_s, add_l, add_t, mul_i, mul_l, mul_t, neg_i, ix_l, ix_t, sl_l, sl_f, sl_t, len_l, len_f, len_t, len_s, abs_i, int_i, lof_l, lof_f, lof_t, tof_l, tof_f, tof_t, dof_t, app_l, ext_t, ext_l, tru_b, tru_i, tru_l, tru_t, tru_n, augN, subN, is_bl, is_non, ixN4_0, ixN4_1, ixN4_2, ixN4_3, lk_some, lk_ite, lk_map, lk_bind, ixOf, endsF_nx, endsF_dat, endsF_own, atI_0, atI_1, atI_2, atI_3, eqA_l0, eqA_tup0, eqA_int, eqA_non, bne_f, bne_t, sizeLine_eq,
  List.cons_append, List.nil_append, List.getElem?_cons_zero, List.getElem?_cons_succ, List.set_cons_zero, List.set_cons_succ, List.length_cons, List.length_nil, List.replicate, List.take_succ_cons, List.take_zero, List.not_mem_nil, List.mem_cons, List.map_cons, List.map_nil, if_false, if_true, Option.map_some, Option.bind_some, Option.getD_some, Nat.reduceAdd, Nat.reduceSub, Nat.reduceLeDiff, Nat.reduceEqDiff, Nat.succ_ne_zero, Nat.zero_ne_one, Nat.one_ne_zero, List.isEmpty_nil, List.isEmpty_cons, List.length_map, List.isEmpty_map, beq_iff_eq, Bool.not_eq_true, reduceCtorEq, or_false, or_true, false_or, true_or, and_true, true_and, List.cons.injEq, Option.some.injEq, Sl.own.injEq, Own.lst.injEq, exists_eq', not_false_eq_true, forall_const, forall_eq, forall_eq_or_imp, decide_eq_true_eq, Bool.not_true, Bool.not_false, Bool.false_eq_true, ite_self])
local macro_rules | `(tactic| walk_at "len") => `(tactic| first | omega | (simp only [List.length_append, List.length_cons, List.length_nil, List.length_map, List.length_singleton, List.length_replicate, List.length_range, List.length_take, List.length_drop, List.length_reverse]; omega) | (simp; omega) | (simp; done))
/-! ### sums of layouts -/
def addL (a b : List Int) : List Int := (List.range (max a.length b.length)).map fun n => getZ a n + getZ b n
theorem addL_len (a b : List Int) : (addL a b).length = max a.length b.length := by unfold addL; rw [List.length_map, List.length_range]
theorem getZ_out {a : List Int} {n : Nat} (h : a.length ≤ n) : getZ a n = 0 := by unfold getZ; rw [List.getElem?_eq_none h]; rfl
theorem addL_at (a b : List Int) (n : Nat) : getZ (addL a b) n = getZ a n + getZ b n := by
  by_cases h : n < max a.length b.length
  · unfold addL
    show (((List.range (max a.length b.length)).map fun n => getZ a n + getZ b n)[n]?).getD 0 = _
    rw [List.getElem?_map, List.getElem?_range h]; rfl
  · rw [getZ_out (by rw [addL_len]; omega), getZ_out (by omega), getZ_out (by omega)]; rfl
theorem getZ_nn {a : List Int} (h : ∀ i ∈ a, 0 ≤ i) (n : Nat) : 0 ≤ getZ a n := by
  unfold getZ
  cases e : a[n]? with
  | none => exact Int.le_refl _
  | some v => exact h v (List.mem_of_getElem? e)
theorem addL_nn {a b : List Int} (ha : ∀ i ∈ a, 0 ≤ i) (hb : ∀ i ∈ b, 0 ≤ i) : ∀ i ∈ addL a b, 0 ≤ i := fun i hi => by
  obtain ⟨n, _, rfl⟩ := List.mem_map.mp hi
  have := getZ_nn ha n
  have := getZ_nn hb n
  omega
theorem app_at {a : List Int} {m n : Nat} (h : n < a.length + m) : atI (a.map D.int ++ (List.replicate m (0 : Int)).map D.int) (n : Int) = some (.int (getZ a n)) := by
  rw [atI_nat rfl, ← List.map_append, List.getElem?_map]
  by_cases hn : n < a.length
  · rw [List.getElem?_append_left hn]
    unfold getZ
    rw [List.getElem?_eq_getElem hn]; rfl
  · rw [List.getElem?_append_right (by omega), List.getElem?_replicate, if_pos (by omega), getZ_out (by omega)]; rfl
theorem rep_zeros : ∀ z : Nat, (List.replicate z [D.int 0]).flatten = (List.replicate z (0 : Int)).map D.int
  | 0 => rfl
  | z + 1 => by rw [List.replicate_succ, List.replicate_succ, List.flatten_cons, List.map_cons, rep_zeros z]; rfl
def rd_added (ks : List Nat) : SD :=
  (wSeq (wAsg ks 2 (wB gMax (wCons (wB gLen (wCons (wVar 0) wNil)) (wCons (wB gLen (wCons (wVar 1) wNil)) wNil))))
  (wSeq (wAsg ks 3 (wOp gAdd (wB gListOf (wCons (wVar 0) wNil)) (wOp gMul (wLst ks (wCons (wC (.int 0)) wNil)) (wOp (gInt fSub) (wVar 2) (wB gLen (wCons (wVar 0) wNil))))))
  (wSeq (wAsg ks 4 (wOp gAdd (wB gListOf (wCons (wVar 1) wNil)) (wOp gMul (wLst ks (wCons (wC (.int 0)) wNil)) (wOp (gInt fSub) (wVar 2) (wB gLen (wCons (wVar 1) wNil))))))
  (wRet ks (wLc ks (wItR1 (wCons (wVar 2) wNil)) (hName ks 5) wYes (wOp gAdd (wOp gIx (wVar 3) (wVar 5)) (wOp gIx (wVar 4) (wVar 5))) [5])))))
def sp_added : DSp := fun args Q _ => ∃ (x y : D) (a b : List Int), args = [.dat x, .dat y] ∧ IntsOf x a ∧ IntsOf y b ∧ a.length ≤ 1000 ∧ b.length ≤ 1000 ∧ Q (.own (.lst ((addL a b).map .int))) [.dat x, .dat y]
theorem max_if (a b : Nat) : (if (b : Int) > (a : Int) then (b : Int) else (a : Int)) = ((max a b : Nat) : Int) := by
  split <;> omega
theorem pl_added : PL 6 2 rd_added sp_added := fun args QD ED h => by
  obtain ⟨x, y, a, b, rfl, hx, hy, ha, hb, h⟩ := h
  refine ⟨rfl, ?_⟩
  unfold rd_added
  have key : ∀ {QI : List D → Rho → Prop} {ρ : Rho}, ρ[3]? = some (.own (.lst (a.map D.int ++ (List.replicate (max a.length b.length - a.length) (0 : Int)).map D.int))) → ρ[4]? = some (.own (.lst (b.map D.int ++ (List.replicate (max a.length b.length - b.length) (0 : Int)).map D.int))) → ρ[5]? = some .no →
      QI ((addL a b).map .int) ρ → compL [] (hName [] 5) wYes (wOp gAdd (wOp gIx (wVar 3) (wVar 5)) (wOp gIx (wVar 4) (wVar 5))) [5] ((List.range (max a.length b.length)).map fun n => .int (n : Nat)) [] ρ QI := fun {QI ρ} h3 h4 h5 q => by
    refine at_comp (P := fun n => n < max a.length b.length) (g := fun n : Nat => .int (n : Nat)) (f := fun n => .int (getZ a n + getZ b n)) (fun n Q hn q => ?_) h5 (List.range (max a.length b.length)) [] (fun n hn => List.mem_range.mp hn) (by walk_at "len") (by rw [List.nil_append]; unfold addL at q; rw [List.map_map] at q; exact q)
    have e3 : (ρ.set 5 (.dat (.int (n : Nat))))[3]? = _ := (set_ne' (by decide)).trans h3
    have e4 : (ρ.set 5 (.dat (.int (n : Nat))))[4]? = _ := (set_ne' (by decide)).trans h4
    have e5 : (ρ.set 5 (.dat (.int (n : Nat))))[5]? = _ := set_at' h5
    try walk_at "dlf"
    rw [e3]
    try walk_at "dlf"
    rw [e5]
    try walk_at "dlf"
    rw [e3]
    try walk_at "dlf"
    rw [lk_eq (app_at (by omega))]
    try walk_at "dlf"
    rw [e4]
    try walk_at "dlf"
    rw [e5]
    try walk_at "dlf"
    rw [e4]
    try walk_at "dlf"
    rw [lk_eq (app_at (by omega))]
    try walk_at "dlf"
    exact q
  have em := max_if a.length b.length
  have t1 : (((max a.length b.length : Nat) : Int) - (a.length : Int)).toNat = max a.length b.length - a.length := by omega
  have t2 : (((max a.length b.length : Nat) : Int) - (b.length : Int)).toNat = max a.length b.length - b.length := by omega
  have t3 : rangeD ((max a.length b.length : Nat) : Int) = (List.range (max a.length b.length)).map fun n => .int (n : Nat) := by unfold rangeD; rw [Int.toNat_natCast]
  rcases hx with rfl | rfl <;> rcases hy with rfl | rfl
  all_goals
    walk_at "dlf"
    rw [em]
    rw [t1, t2, t3, rep_zeros, rep_zeros]
    refine ⟨⟨by omega, by omega, by omega⟩, by walk_at "len", ⟨by omega, by omega, by omega⟩, by walk_at "len", by omega, by omega, fun o z => (by cases z), ?_⟩
    refine key rfl rfl rfl ?_
    walk_at "dlf"
    exact h
def rd_factors_of (ks : List Nat) (LC : Addr) : SD :=
  (wRet ks (wIf (wTr (wB (gIsiN LC "int") (wCons (wVar 0) (wCons (wC (.ty "int")) wNil)))) (wTup ks (wCons (wVar 0) wNil)) (wFld LC "factors" (wVar 0))))
def sp_factors_of (LC : Addr) : DSp := fun args Q _ => ∃ t : List Int, args = [.dat (.ins LC (layF t))] ∧ Q (.dat (.tup (t.map .int))) [.dat (.ins LC (layF t))]
theorem isiN_ins {LC : Addr} {l : List (Str × D)} : gIsiN LC "int" [.ins LC l, .ty "int"] = some (.d (.bl false)) := by unfold gIsiN; dsimp only; rw [if_pos ⟨rfl, rfl⟩]
theorem pl_factors_of (LC : Addr) : PL 1 1 (fun ks => rd_factors_of ks LC) (sp_factors_of LC) := fun args QD ED h => by
  obtain ⟨t, rfl, h⟩ := h
  refine ⟨rfl, ?_⟩
  unfold rd_factors_of
  walk_at "dlf"
  rw [lk_eq isiN_ins]
  walk_at "dlf"
  rw [lk_eq lay_f]
  walk_at "dlf"
  exact h
def rd_Layout___add__ (ks : List Nat) (LC : Addr) (sp_factors_of : DSp) (sp_added : DSp) (sp_Layout : DSp) : SD :=
  (wRet ks (wMake ks LC sp_Layout (wCons (wCall ks sp_added (wCons (wFld LC "factors" (wVar 0)) (wCons (wCall ks sp_factors_of (wCons (wVar 1) wNil)) wNil))) wNil)))
def sp_Layout___add__ (LC : Addr) : DSp := fun args Q _ => ∃ s t : List Int, args = [.dat (.ins LC (layF s)), .dat (.ins LC (layF t))] ∧ s.length ≤ 41 ∧ t.length ≤ 41 ∧ (∀ i ∈ s, 0 ≤ i) ∧ (∀ i ∈ t, 0 ≤ i) ∧ Q (.own (.ins LC (layF (trimZ (addL s t))))) [.dat (.ins LC (layF s)), .dat (.ins LC (layF t))]
theorem pl_Layout___add__ (LC : Addr) : PL 2 2 (fun ks => rd_Layout___add__ ks LC (sp_factors_of LC) sp_added (sp_Layout___init__ LC)) (sp_Layout___add__ LC) := fun args QD ED h => by
  obtain ⟨s, t, rfl, hs, ht, ns, nt, h⟩ := h
  refine ⟨rfl, ?_⟩
  unfold rd_Layout___add__
  walk_at "dlf"
  rw [lk_eq lay_f]
  walk_at "dlf"
  refine ⟨t, rfl, ?_⟩
  walk_at "dlf"
  refine ⟨_, _, s, t, rfl, .inr rfl, .inr rfl, by omega, by omega, ?_⟩
  walk_at "dlf"
  refine ⟨_, addL s t, rfl, .inl rfl, ⟨by have := trimZ_len (addL s t); rw [addL_len] at this; omega, by rw [addL_len]; omega, addL_nn ns nt⟩, ?_⟩
  walk_at "dlf"
  exact h

theorem eqA_self {neg : Bool} {d : D} {p : PyData} (h : pyD d = some p) (c : p.canLay0 = true) (dd : p.depth ≤ 64) : gEqA neg d d = some (.d (.bl (!neg))) := by
  have e : gEqB d d = some true := by
    have deep : deepEq d d = some true := by
      unfold deepEq
      rw [h, Option.bind_some, Option.bind_some, if_pos ⟨c, c, by omega⟩, PySem.SeqAt.eqv_refl p c]
    unfold gEqB
    cases d with
    | tup l =>
      unfold quick
      dsimp only
      by_cases hl : l = []
      · rw [if_pos (.inl hl)]; simp
      · rw [if_neg (by simp [hl])]; exact deep
    | lst l =>
      unfold quick
      dsimp only
      rw [if_pos rfl]; exact deep
    | str x => simp [quick]
    | _ => exact deep
  rw [eqA_eq e]
  cases neg <;> rfl
/-! ### products of layouts -/
/-- the sum of so many products -/
def convN (a b : List Int) (n : Nat) : Nat → Int
  | 0 => 0
  | m + 1 => convN a b n m + getZ a m * facAt b ((n : Int) - (m : Int))
theorem convN_out {a b : List Int} {n m : Nat} (h : a.length ≤ m ∨ n < m) : ∀ j : Nat, convN a b n (m + j) = convN a b n m
  | 0 => rfl
  | j + 1 => by
    show convN a b n (m + j) + getZ a (m + j) * facAt b ((n : Int) - ((m + j : Nat) : Int)) = _
    rw [convN_out h j]
    rcases h with h | h
    · rw [getZ_out (by omega), Int.zero_mul]; omega
    · rw [facAt_out (by omega), Int.mul_zero]; omega
theorem convN_nn {a b : List Int} (ha : ∀ i ∈ a, 0 ≤ i) (hb : ∀ i ∈ b, 0 ≤ i) (n : Nat) : ∀ m, 0 ≤ convN a b n m
  | 0 => Int.le_refl _
  | m + 1 => by
    have h1 := convN_nn ha hb n m
    have h2 := Int.mul_nonneg (getZ_nn ha m) (facAt_nn hb ((n : Int) - (m : Int)))
    show 0 ≤ convN a b n m + _
    omega
/-- the factor of the product at a degree -/
def conv (a b : List Int) (n : Nat) : Int := convN a b n (n + 1)
theorem conv_far {a b : List Int} {n m : Nat} (h : a.length ≤ m ∨ n + 1 ≤ m) : convN a b n m = conv a b n := by
  unfold conv
  rcases Nat.le_total m (n + 1) with h1 | h1
  · rcases h with h | h
    · have := convN_out (a := a) (b := b) (n := n) (m := m) (.inl h) (n + 1 - m)
      rw [show m + (n + 1 - m) = n + 1 by omega] at this
      exact this.symm
    · rw [show m = n + 1 by omega]
  · have := convN_out (a := a) (b := b) (n := n) (m := n + 1) (.inr (by omega)) (m - (n + 1))
    rw [show n + 1 + (m - (n + 1)) = m by omega] at this
    exact this
def mulL (a b : List Int) : List Int := (List.range (a.length + b.length - 1)).map (conv a b)
theorem mulL_len (a b : List Int) : (mulL a b).length = a.length + b.length - 1 := by unfold mulL; rw [List.length_map, List.length_range]
theorem conv_out {a b : List Int} {n : Nat} (h : a.length + b.length ≤ n + 1) : conv a b n = 0 := by
  have key : ∀ m, m ≤ a.length → convN a b n m = 0 := by
    intro m
    induction m with
    | zero => intro _; rfl
    | succ m ih =>
      intro hm
      show convN a b n m + _ = 0
      rw [ih (by omega), facAt_out (by omega), Int.mul_zero]; rfl
  rw [← conv_far (m := a.length) (.inl (Nat.le_refl _)), key _ (Nat.le_refl _)]
theorem mulL_at (a b : List Int) (n : Nat) : getZ (mulL a b) n = conv a b n := by
  by_cases h : n < a.length + b.length - 1
  · unfold mulL
    show (((List.range (a.length + b.length - 1)).map (conv a b))[n]?).getD 0 = _
    rw [List.getElem?_map, List.getElem?_range h]; rfl
  · rw [getZ_out (by rw [mulL_len]; omega), conv_out (by omega)]
theorem mulL_nn {a b : List Int} (ha : ∀ i ∈ a, 0 ≤ i) (hb : ∀ i ∈ b, 0 ≤ i) : ∀ i ∈ mulL a b, 0 ≤ i := fun i hi => by
  obtain ⟨n, _, rfl⟩ := List.mem_map.mp hi
  exact convN_nn ha hb n _
def rd_multiplied (ks : List Nat) : SD :=
  (wSeq (wAsg ks 2 (wLst ks wNil))
  (wSeq (wFor (wItR1 (wCons (wOp (gInt fSub) (wOp gAdd (wB gLen (wCons (wVar 0) wNil)) (wB gLen (wCons (wVar 1) wNil))) (wC (.int 1))) wNil)) (hName ks 3) (wSeq (wPar ks [4, 5] (wCons (wB gMax (wCons (wC (.int 0)) (wCons (wOp gAdd (wOp (gInt fSub) (wVar 3) (wB gLen (wCons (wVar 1) wNil))) (wC (.int 1))) wNil))) (wCons (wB gMin (wCons (wVar 3) (wCons (wOp (gInt fSub) (wB gLen (wCons (wVar 0) wNil)) (wC (.int 1))) wNil))) wNil)))
  (wDrop (wMut ks 2 gAppend (wCons (wB gSum (wCons (wLc ks (wItR2 (wCons (wVar 4) (wCons (wOp gAdd (wVar 5) (wC (.int 1))) wNil))) (hName ks 6) wYes (wOp gMul (wOp gIx (wVar 0) (wVar 6)) (wOp gIx (wVar 1) (wOp (gInt fSub) (wVar 3) (wVar 6)))) [6]) wNil)) wNil)))))
  (wRet ks (wVar 2))))
def sp_multiplied : DSp := fun args Q _ => ∃ (x y : D) (a b : List Int), args = [.dat x, .dat y] ∧ IntsOf x a ∧ IntsOf y b ∧ a.length ≤ 1000 ∧ b.length ≤ 1000 ∧ (∀ i ∈ a, i.natAbs.log2 < 400000) ∧ (∀ i ∈ b, i.natAbs.log2 < 400000) ∧ Q (.own (.lst ((mulL a b).map .int))) [.dat x, .dat y]
abbrev muBody : SD := (wSeq (wPar [] [4, 5] (wCons (wB gMax (wCons (wC (.int 0)) (wCons (wOp gAdd (wOp (gInt fSub) (wVar 3) (wB gLen (wCons (wVar 1) wNil))) (wC (.int 1))) wNil))) (wCons (wB gMin (wCons (wVar 3) (wCons (wOp (gInt fSub) (wB gLen (wCons (wVar 0) wNil)) (wC (.int 1))) wNil))) wNil)))
  (wDrop (wMut [] 2 gAppend (wCons (wB gSum (wCons (wLc [] (wItR2 (wCons (wVar 4) (wCons (wOp gAdd (wVar 5) (wC (.int 1))) wNil))) (hName [] 6) wYes (wOp gMul (wOp gIx (wVar 0) (wVar 6)) (wOp gIx (wVar 1) (wOp (gInt fSub) (wVar 3) (wVar 6)))) [6]) wNil)) wNil))))
theorem at_getZ {l : List Int} {i : Int} (h0 : 0 ≤ i) (h1 : i < (l.length : Int)) : atI (l.map D.int) i = some (.int (facAt l i)) := by
  obtain ⟨v, _, e1, e2⟩ := facAt_in h0 h1
  rw [e1, e2]
theorem sum_win (f : Nat → Int) : ∀ (lo m : Nat), (∀ j, j < lo → f j = 0) → ((List.range m).map fun i => f (lo + i)).sum = ((List.range (lo + m)).map f).sum := fun lo m h => by
  rw [List.range_add, List.map_append, List.sum_append, List.map_map]
  have z : ((List.range lo).map f).sum = 0 := by
    have : ∀ k, k ≤ lo → ((List.range k).map f).sum = 0 := by
      intro k
      induction k with
      | zero => intro _; rfl
      | succ k ih =>
        intro hk
        rw [List.range_succ, List.map_append, List.sum_append, ih (by omega)]
        simp [h k (by omega)]
    exact this lo (Nat.le_refl _)
  rw [z, Int.zero_add]
  rfl
theorem convN_sum (a b : List Int) (n : Nat) : ∀ m, convN a b n m = ((List.range m).map fun j => getZ a j * facAt b ((n : Int) - (j : Int))).sum
  | 0 => rfl
  | m + 1 => by
    rw [List.range_succ, List.map_append, List.sum_append, ← convN_sum a b n m]
    simp [convN]
theorem fac_log {l : List Int} {m : Nat} (hm : 0 < m) (h : ∀ i ∈ l, i.natAbs.log2 < m) (i : Int) : (facAt l i).natAbs.log2 < m := by
  have z : (0 : Int).natAbs.log2 < m := by show (0 : Nat).log2 < m; have : Nat.log2 0 = 0 := by decide
                                           omega
  unfold facAt
  split
  · cases e : l[i.toNat]? with
    | none => exact z
    | some v => exact h v (List.mem_of_getElem? e)
  · exact z
theorem mu_one {a b : List Int} {n : Nat} {x y : D} (hx : IntsOf x a) (hy : IntsOf y b) (la : a.length ≤ 1000) (lb : b.length ≤ 1000) (hn : n ≤ 2000) (ga : ∀ i ∈ a, i.natAbs.log2 < 400000) (gb : ∀ i ∈ b, i.natAbs.log2 < 400000) {acc : List D} (hacc : acc.length < 100000) {s4 s5 : Sl} {DD : EndsD}
    (h : ∀ s4 s5, DD.nx [.dat x, .dat y, .own (.lst (acc ++ [.int (conv a b n)])), .dat (.int (n : Nat)), s4, s5, .no]) :
    muBody DD [.dat x, .dat y, .own (.lst acc), .dat (.int (n : Nat)), s4, s5, .no] := by
  have e1 : (if (n : Int) - (b.length : Int) + 1 > 0 then (n : Int) - (b.length : Int) + 1 else 0) = ((n + 1 - b.length : Nat) : Int) := by split <;> omega
  have e2 : (if (a.length : Int) - 1 < (n : Int) then (a.length : Int) - 1 else (n : Int)) + 1 = ((min (n + 1) a.length : Nat) : Int) := by split <;> omega
  have e3 : range2D ((n + 1 - b.length : Nat) : Int) ((min (n + 1) a.length : Nat) : Int) = (List.range (min (n + 1) a.length - (n + 1 - b.length))).map fun t : Nat => .int (((n + 1 - b.length + t : Nat)) : Int) := by
    unfold range2D
    rw [show (((min (n + 1) a.length : Nat) : Int) - ((n + 1 - b.length : Nat) : Int)).toNat = min (n + 1) a.length - (n + 1 - b.length) by omega]
    refine List.map_congr_left fun t _ => ?_
    congr 1
  have key : ((List.range (min (n + 1) a.length - (n + 1 - b.length))).map fun t : Nat => getZ a (n + 1 - b.length + t) * facAt b ((n : Int) - ((n + 1 - b.length + t : Nat) : Int))).sum = conv a b n := by
    rw [sum_win (fun j => getZ a j * facAt b ((n : Int) - (j : Int))) (n + 1 - b.length) _ (fun j hj => by rw [facAt_out (by omega), Int.mul_zero]), ← convN_sum]
    exact conv_far (by omega)
  have cmp : ∀ {QI : List D → Rho → Prop} {ρ : Rho}, ρ[0]? = some (.dat x) → ρ[1]? = some (.dat y) → ρ[3]? = some (.dat (.int (n : Nat))) → ρ[6]? = some .no →
      QI (((List.range (min (n + 1) a.length - (n + 1 - b.length))).map fun t : Nat => getZ a (n + 1 - b.length + t) * facAt b ((n : Int) - ((n + 1 - b.length + t : Nat) : Int))).map .int) ρ →
      compL [] (hName [] 6) wYes (wOp gMul (wOp gIx (wVar 0) (wVar 6)) (wOp gIx (wVar 1) (wOp (gInt fSub) (wVar 3) (wVar 6)))) [6] ((List.range (min (n + 1) a.length - (n + 1 - b.length))).map fun t : Nat => .int (((n + 1 - b.length + t : Nat)) : Int)) [] ρ QI := fun {QI ρ} h0 h1 h3 h6 q => by
    refine at_comp (P := fun t => t < min (n + 1) a.length - (n + 1 - b.length)) (g := fun t : Nat => .int (((n + 1 - b.length + t : Nat)) : Int)) (f := fun t => .int (getZ a (n + 1 - b.length + t) * facAt b ((n : Int) - ((n + 1 - b.length + t : Nat) : Int)))) (fun t Q ht q => ?_) h6 (List.range _) [] (fun t ht => List.mem_range.mp ht) (by walk_at "len") (by rw [List.nil_append]; rw [List.map_map] at q; exact q)
    generalize hp : n + 1 - b.length + t = p at q ⊢
    have p0 : p < a.length := by omega
    have p1 : p ≤ n := by omega
    have p2 : (n : Int) - (p : Int) < (b.length : Int) := by omega
    have f0 : (ρ.set 6 (.dat (.int (p : Nat))))[0]? = _ := (set_ne' (by decide)).trans h0
    have f1 : (ρ.set 6 (.dat (.int (p : Nat))))[1]? = _ := (set_ne' (by decide)).trans h1
    have f3 : (ρ.set 6 (.dat (.int (p : Nat))))[3]? = _ := (set_ne' (by decide)).trans h3
    have f6 : (ρ.set 6 (.dat (.int (p : Nat))))[6]? = _ := set_at' h6
    have g1 := fac_log (by decide) ga (p : Int)
    have g2 := fac_log (by decide) gb ((n : Int) - (p : Int))
    have ex : gIx x (.int (p : Nat)) = some (.d (.int (getZ a p))) := by
      have := at_getZ (l := a) (i := (p : Nat)) (by omega) (by omega)
      rcases hx with rfl | rfl <;> simp [gIx, this, facAt_nat]
    have ey : gIx y (.int ((n : Int) - (p : Int))) = some (.d (.int (facAt b ((n : Int) - (p : Int))))) := by
      have := at_getZ (l := b) (i := (n : Int) - (p : Int)) (by omega) p2
      rcases hy with rfl | rfl <;> simp [gIx, this]
    try walk_at "dlf"
    rw [f0]
    try walk_at "dlf"
    rw [f6]
    try walk_at "dlf"
    rw [lk_eq ex]
    try walk_at "dlf"
    rw [f1]
    try walk_at "dlf"
    rw [f3]
    try walk_at "dlf"
    rw [f6]
    try walk_at "dlf"
    rw [lk_eq ey]
    try walk_at "dlf"
    refine ⟨by rw [← facAt_nat]; omega, ?_⟩
    exact q
  have ln : ∀ {x : D} {a : List Int}, IntsOf x a → gLen [x] = some (.d (.int (a.length : Nat))) := fun {x a} h => by
    rcases h with rfl | rfl <;> simp [gLen]
  show wSeq _ _ _ _
  walk_at "dlf"
  rw [lk_eq (ln hy)]
  try walk_at "dlf"
  rw [lk_eq (ln hx)]
  try walk_at "dlf"
  rw [e1, e2, e3]
  refine ⟨⟨by omega, by omega, by omega, by omega⟩, fun o z => (by cases z), cmp rfl rfl rfl rfl ?_⟩
  try walk_at "dlf"
  rw [lk_eq (sum_l _), key]
  try walk_at "dlf"
  exact ⟨by omega, h _ _⟩
theorem mu_loop {a b : List Int} {x y : D} (hx : IntsOf x a) (hy : IntsOf y b) (la : a.length ≤ 1000) (lb : b.length ≤ 1000) (ga : ∀ i ∈ a, i.natAbs.log2 < 400000) (gb : ∀ i ∈ b, i.natAbs.log2 < 400000) {DD : EndsD} : ∀ (m n : Nat) (acc : List D) (s3 s4 s5 : Sl), n + m ≤ 2000 → acc.length ≤ n →
    (∀ s3 s4 s5, DD.nx [.dat x, .dat y, .own (.lst (acc ++ (List.range' n m).map fun j => .int (conv a b j))), s3, s4, s5, .no]) →
    forL (hName [] 3) muBody DD ((List.range' n m).map fun j => .int (j : Nat)) [.dat x, .dat y, .own (.lst acc), s3, s4, s5, .no]
  | 0, n, acc, s3, s4, s5, _, _, h => by
    have := h s3 s4 s5
    rw [show (List.range' n 0).map (fun j => D.int (conv a b j)) = [] from rfl, List.append_nil] at this
    exact this
  | m + 1, n, acc, s3, s4, s5, hm, hacc, h => by
    rw [List.range'_succ, List.map_cons, forL_cons, e_hName, if_neg (List.not_mem_nil), k_fo2]
    refine mu_one hx hy la lb (by omega) ga gb (by omega) fun s4 s5 => ?_
    rw [loopE_nx]
    refine mu_loop hx hy la lb ga gb m (n + 1) _ _ _ _ (by omega) (by walk_at "len") fun s3 s4 s5 => ?_
    have := h s3 s4 s5
    rw [List.range'_succ, List.map_cons] at this
    rw [List.append_assoc]
    exact this
theorem pl_multiplied : PL 7 2 rd_multiplied sp_multiplied := fun args QD ED h => by
  obtain ⟨x, y, a, b, rfl, hx, hy, la, lb, ga, gb, h⟩ := h
  refine ⟨rfl, ?_⟩
  unfold rd_multiplied
  have ln : ∀ {x : D} {a : List Int}, IntsOf x a → gLen [x] = some (.d (.int (a.length : Nat))) := fun {x a} h => by
    rcases h with rfl | rfl <;> simp [gLen]
  have er : rangeD ((a.length : Int) + (b.length : Int) - 1) = (List.range' 0 (a.length + b.length - 1)).map fun j => .int (j : Nat) := by
    unfold rangeD
    rw [show ((a.length : Int) + (b.length : Int) - 1).toNat = a.length + b.length - 1 by omega, List.range_eq_range']
  walk_at "dlf"
  rw [lk_eq (ln hx)]
  try walk_at "dlf"
  rw [lk_eq (ln hy)]
  try walk_at "dlf"
  rw [er]
  refine ⟨by omega, by omega, mu_loop hx hy la lb ga gb _ 0 [] _ _ _ (by omega) (Nat.le_refl _) fun s3 s4 s5 => ?_⟩
  walk_at "dlf"
  have e : (List.range' 0 (a.length + b.length - 1)).map (fun j => D.int (conv a b j)) = (mulL a b).map .int := by
    unfold mulL
    rw [List.map_map, List.range_eq_range']; rfl
  rw [e]
  exact h
def rd_Layout___mul__ (ks : List Nat) (LC : Addr) (sp_factors_of : DSp) (sp_multiplied : DSp) (sp_Layout : DSp) : SD :=
  (wRet ks (wMake ks LC sp_Layout (wCons (wCall ks sp_multiplied (wCons (wFld LC "factors" (wVar 0)) (wCons (wCall ks sp_factors_of (wCons (wVar 1) wNil)) wNil))) wNil)))
def sp_Layout___mul__ (LC : Addr) : DSp := fun args Q _ => ∃ s t : List Int, args = [.dat (.ins LC (layF s)), .dat (.ins LC (layF t))] ∧ s.length + t.length ≤ 42 ∧ (∀ i ∈ s, 0 ≤ i ∧ i.natAbs.log2 < 400000) ∧ (∀ i ∈ t, 0 ≤ i ∧ i.natAbs.log2 < 400000) ∧ Q (.own (.ins LC (layF (trimZ (mulL s t))))) [.dat (.ins LC (layF s)), .dat (.ins LC (layF t))]
theorem pl_Layout___mul__ (LC : Addr) : PL 2 2 (fun ks => rd_Layout___mul__ ks LC (sp_factors_of LC) sp_multiplied (sp_Layout___init__ LC)) (sp_Layout___mul__ LC) := fun args QD ED h => by
  obtain ⟨s, t, rfl, hl, ns, nt, h⟩ := h
  refine ⟨rfl, ?_⟩
  unfold rd_Layout___mul__
  walk_at "dlf"
  rw [lk_eq lay_f]
  walk_at "dlf"
  refine ⟨t, rfl, ?_⟩
  walk_at "dlf"
  refine ⟨_, _, s, t, rfl, .inr rfl, .inr rfl, by omega, by omega, fun i hi => (ns i hi).2, fun i hi => (nt i hi).2, ?_⟩
  walk_at "dlf"
  refine ⟨_, mulL s t, rfl, .inl rfl, ⟨by have := trimZ_len (mulL s t); rw [mulL_len] at this; omega, by rw [mulL_len]; omega, mulL_nn (fun i hi => (ns i hi).1) fun i hi => (nt i hi).1⟩, ?_⟩
  walk_at "dlf"
  exact h
def rd_Layout___getitem__ (ks : List Nat) (LC : Addr) : SD :=
  (wRet ks (wIf (wBl (wChain (gInt fLe) (gInt fLt) (wC (.int 0)) (wVar 1) (wB gLen (wCons (wFld LC "factors" (wVar 0)) wNil)))) (wOp gIx (wFld LC "factors" (wVar 0)) (wVar 1)) (wC (.int 0))))
def sp_Layout___getitem__ (LC : Addr) : DSp := fun args Q _ => ∃ (s : List Int) (i : Int), args = [.dat (.ins LC (layF s)), .dat (.int i)] ∧ Q (.dat (.int (facAt s i))) [.dat (.ins LC (layF s)), .dat (.int i)]
theorem pl_Layout___getitem__ (LC : Addr) : PL 2 2 (fun ks => rd_Layout___getitem__ ks LC) (sp_Layout___getitem__ LC) := fun args QD ED h => by
  obtain ⟨s, i, rfl, h⟩ := h
  refine ⟨rfl, ?_⟩
  unfold rd_Layout___getitem__
  walk_at "dlf"
  by_cases h0 : 0 ≤ i
  · rw [if_pos h0, lk_eq lay_f]
    try walk_at "dlf"
    by_cases h1 : i < (s.length : Int)
    · rw [if_pos h1, lk_eq lay_f]
      try walk_at "dlf"
      rw [lk_eq (at_getZ h0 h1)]
      try walk_at "dlf"
      exact h
    · rw [if_neg h1]
      rw [facAt_out (by omega)] at h
      exact h
  · rw [if_neg h0]
    rw [facAt_out (by omega)] at h
    exact h

end DL

set_option Elab.async false
set_option maxRecDepth 100000
set_option maxHeartbeats 4000000
/-! DSF: factors drawn (deck). -/
namespace DL
open PySem PySem.Spec PyProof.Rows L2
local macro_rules | `(tactic| walk_at "dl") => `(tactic| simp (config := {decide := false, implicitDefEqProofs := false}) only [e_eqO, k_eo0, k_eo1, k_eo2, k_eo3, e_cnt, k_cn0, k_cn1, k_cn2, k_cn3, isLst_l, cntD_i, e_fld, k_fl1, k_fl2, k_fl3, insD_i, e_setF, k_sf1, k_sf2, q_sf, e_make, k_mk1, k_mk2, k_mk3, e_never, e_callRR, k_rr1, k_rr2, k_rr3, k_rr4, e_itEA, k_ea1, k_ea2, e_itT2, k_i1, k_i2, e_m1, k_m1, k_m1b, k_m2, k_m3, k_m4, e_itZ, k_z1, e_scLen, k_sc, k_scQ, compT_nil, compT_cons, k_t1, k_t2, k_t2b, k_t3, e_chain, k_ch, k_ch0, k_ch1, k_ch2, k_ch3, k_ch4, k_ch5, k_ch6, rev_l, rev_f, rev_t, clear_l, lista_s, max_2, min_2, inA_s, ix_s, mulA_si, seqE_nx, seqE_rt, seqE_bk, seqE_ct, loopE_nx, loopE_rt, loopE_bk, loopE_ct, e_seq, e_next, e_break, e_cont, e_retN, e_var, q_var_d, q_var_o, e_c, con_d, con_o, con_b, conS_d, conS_o, own_l, own_d, own_i, z_d, z_n, z_t, z_w, sl_d, sl_o, frz_d, frz_o, frz_b, q_frz_d, q_frz_o, frzs_nil, frzs_cons, k_fzs, k_fz, thin_d, thin_o, thin_b, k_th, thins_nil, thins_cons, k_ths, k_ts, setR_nil, setR_cons, k_e, e_op, k_op1, k_op2, k_op3, k_op4, e_un, k_un1, k_un2, e_nil, e_cons, k_co1, k_co2, conL_nil, conL_cons, k_cl, k_cl2, e_b, k_b1, k_b2, e_tup, k_tup1, k_tup2, e_lst, k_lst1, k_lst2, e_dct0, k_ret, e_call, k_ca1, k_ca2, k_retR, e_callR, k_cr1, k_cr2, k_cr3, e_tr, k_tr1, k_tr2, k_tr3, e_bl, k_bl, e_and, k_and, e_or, k_or, e_not, k_not, e_if, k_if, e_ifS, k_ifS, e_notV, k_nv1, k_nv2, e_andV, k_av1, k_av2, e_orV, k_ov1, k_ov2, bD_bl, e_sl, k_sl1, k_sl2, k_sl3, k_sl4, e_part, k_pt1, k_pt2, e_noP, e_dget, k_ge1, k_ge1b, k_ge2, k_ge3, k_ge4, dctD_d, keyD_i, keyD_s, e_mut, q_mu0, k_mu1, k_mu2, q_mu3, k_mu4, e_put, k_pu1, k_pu2, k_pu3, k_pu4, q_pu4, k_pu5, e_aug, q_au0, k_au1, k_au2, k_au3, e_asg, k_as1, k_as2, e_par, k_pa1, k_pa2, e_unp, k_up1, k_up2, e_hName, e_hNil, e_hCons, k_hc, e_hTup, e_hWt, e_drop, k_dr, e_ret, k_rt_d, k_rt_o, k_rt_b, q_out_o, q_out_d, forL_nil, forL_cons, k_fo2, e_for, k_fo1, k_wh, e_itS, k_it1, k_it2, k_it3, walk_l, walk_f, walk_t, e_itR1, k_r11, k_r12, e_itR2, k_r21, k_r22, e_itE, k_en1, k_en2, k_en3, list_l, list_f, e_lc, k_lc, k_lcQ, compL_nil, compL_cons, k_c1, k_c2, k_c3, k_c4, e_yes, wip_nil, wip_cons, unw_nil, unw_cons, g_int, f_add, f_sub, f_mul, f_div, f_mod, f_pow, f_lt, f_le, f_gt, f_ge, add_i, add_s, add_l, add_t, mul_i, mul_l, mul_t, neg_i, ix_l, ix_t, sl_l, sl_f, sl_t, len_l, len_f, len_t, len_s, abs_i, int_i, lof_l, lof_f, lof_t, tof_l, tof_f, tof_t, dof_t, app_l, ext_t, ext_l, tru_b, tru_i, tru_l, tru_t, tru_n, augN, subN, is_bl, is_non, ixN4_0, ixN4_1, ixN4_2, ixN4_3, lk_some, lk_ite, lk_map, lk_bind, ixOf, endsF_nx, endsF_dat, endsF_own, atI_0, atI_1, atI_2, atI_3, eqA_l0, eqA_tup0, eqA_int, eqA_non, bne_f, bne_t, sizeLine_eq,
  List.cons_append, List.nil_append, List.getElem?_cons_zero, List.getElem?_cons_succ, List.set_cons_zero, List.set_cons_succ, List.length_cons, List.length_nil, List.replicate, List.take_succ_cons, List.take_zero, List.not_mem_nil, List.mem_cons, List.map_cons, List.map_nil, if_false, if_true, Option.map_some, Option.bind_some, Option.getD_some, Nat.reduceAdd, Nat.reduceSub, Nat.reduceLeDiff, Nat.reduceEqDiff, Nat.succ_ne_zero, Nat.zero_ne_one, Nat.one_ne_zero, List.isEmpty_nil, List.isEmpty_cons, List.length_map, List.isEmpty_map, beq_iff_eq, Bool.not_eq_true, reduceCtorEq, or_false, or_true, false_or, true_or, and_true, true_and, List.cons.injEq, Option.some.injEq, Sl.own.injEq, Own.lst.injEq, exists_eq', not_false_eq_true, forall_const, forall_eq, forall_eq_or_imp, decide_eq_true_eq, Bool.not_true, Bool.not_false, Bool.false_eq_true, ite_self])
local macro_rules | `(tactic| walk_at "dlf") => `(tactic| simp (config := {decide := false, implicitDefEqProofs := false}) only [e_eqO, k_eo0, k_eo1, k_eo2, k_eo3, e_cnt, k_cn0, k_cn1, k_cn2, k_cn3, isLst_l, cntD_i, e_fld, k_fl1, k_fl2, k_fl3, insD_i, e_setF, k_sf1, k_sf2, q_sf, e_make, k_mk1, k_mk2, k_mk3, e_never, e_callRR, k_rr1, k_rr2, k_rr3, k_rr4, e_itEA, k_ea1, k_ea2, e_itT2, k_i1, k_i2, e_m1, k_m1, k_m1b, k_m2, k_m3, k_m4, e_itZ, k_z1, e_scLen, k_sc, k_scQ, compT_nil, compT_cons, k_t1, k_t2, k_t2b, k_t3, e_chain, k_ch, k_ch0, k_ch1, k_ch2, k_ch3, k_ch4, k_ch5, k_ch6, rev_l, rev_f, rev_t, clear_l, lista_s, max_2, min_2, inA_s, ix_s, mulA_si, seqE_nx, seqE_rt, seqE_bk, seqE_ct, loopE_nx, loopE_rt, loopE_bk, loopE_ct, e_seq, e_next, e_break, e_cont, e_retN, e_var, q_var_d, q_var_o, e_c, con_d, con_o, con_b, conS_d, conS_o, own_l, own_d, own_i, z_d, z_n, z_t, z_w, sl_d, sl_o, frz_d, frz_o, frz_b, q_frz_d, q_frz_o, frzs_nil, frzs_cons, k_fzs, k_fz, thin_d, thin_o, thin_b, k_th, thins_nil, thins_cons, k_ths, k_ts, setR_nil, setR_cons, k_e, e_op, k_op1, k_op2, k_op3, k_op4, e_un, k_un1, k_un2, e_nil, e_cons, k_co1, k_co2, conL_nil, conL_cons, k_cl, k_cl2, e_b, k_b1, k_b2, e_tup, k_tup1, k_tup2, e_lst, k_lst1, k_lst2, e_dct0, k_ret, e_call, k_ca1, k_ca2, k_retR, e_callR, k_cr1, k_cr2, k_cr3, e_tr, k_tr1, k_tr2, k_tr3, e_bl, k_bl, e_and, k_and, e_or, k_or, e_not, k_not, e_if, k_if, e_ifS, k_ifS, e_notV, k_nv1, k_nv2, e_andV, k_av1, k_av2, e_orV, k_ov1, k_ov2, bD_bl, e_sl, k_sl1, k_sl2, k_sl3, k_sl4, e_part, k_pt1, k_pt2, e_noP, e_dget, k_ge1, k_ge1b, k_ge2, k_ge3, k_ge4, dctD_d, keyD_i, keyD_s, e_mut, q_mu0, k_mu1, k_mu2, q_mu3, k_mu4, e_put, k_pu1, k_pu2, k_pu3, k_pu4, q_pu4, k_pu5, e_aug, q_au0, k_au1, k_au2, k_au3, e_asg, k_as1, k_as2, e_par, k_pa1, k_pa2, e_unp, k_up1, k_up2, e_hName, e_hNil, e_hCons, k_hc, e_hTup, e_hWt, e_drop, k_dr, e_ret, k_rt_d, k_rt_o, k_rt_b, q_out_o, q_out_d, forL_nil, k_fo2, e_for, k_fo1, k_wh, e_itS, k_it1, k_it2, k_it3, walk_l, walk_f, walk_t, e_itR1, k_r11, k_r12, e_itR2, k_r21, k_r22, e_itE, k_en1, k_en2, k_en3, list_l, list_f, e_lc, k_lc, k_lcQ, compL_nil, k_c1, k_c2, k_c3, k_c4, e_yes, wip_nil, wip_cons, unw_nil, unw_cons, g_int, f_add, f_sub, f_mul, f_div, f_mod, f_pow, f_lt, f_le, f_gt, f_ge, add_i, add_s, add_l, add_t, mul_i, mul_l, mul_t, neg_i, ix_l, ix_t, sl_l, sl_f, sl_t, len_l, len_f, len_t, len_s, abs_i, int_i, lof_l, lof_f, lof_t, tof_l, tof_f, tof_t, dof_t, app_l, ext_t, ext_l, tru_b, tru_i, tru_l, tru_t, tru_n, augN, subN, is_bl, is_non, ixN4_0, ixN4_1, ixN4_2, ixN4_3, lk_some, lk_ite, lk_map, lk_bind, ixOf, endsF_nx, endsF_dat, endsF_own, atI_0, atI_1, atI_2, atI_3, eqA_l0, eqA_tup0, eqA_int, eqA_non, bne_f, bne_t, sizeLine_eq,
  List.cons_append, List.nil_append, List.getElem?_cons_zero, List.getElem?_cons_succ, List.set_cons_zero, List.set_cons_succ, List.length_cons, List.length_nil, List.replicate, List.take_succ_cons, List.take_zero, List.not_mem_nil, List.mem_cons, List.map_cons, List.map_nil, if_false, if_true, Option.map_some, Option.bind_some, Option.getD_some, Nat.reduceAdd, Nat.reduceSub, Nat.reduceLeDiff, Nat.reduceEqDiff, Nat.succ_ne_zero, Nat.zero_ne_one, Nat.one_ne_zero, List.isEmpty_nil, List.isEmpty_cons, List.length_map, List.isEmpty_map, beq_iff_eq, Bool.not_eq_true, reduceCtorEq, or_false, or_true, false_or, true_or, and_true, true_and, List.cons.injEq, Option.some.injEq, Sl.own.injEq, Own.lst.injEq, exists_eq', not_false_eq_true, forall_const, forall_eq, forall_eq_or_imp, decide_eq_true_eq, Bool.not_true, Bool.not_false, Bool.false_eq_true, ite_self])
local macro_rules | `(tactic| walk_at "len") => `(tactic| first | omega | (simp only [List.length_append, List.length_cons, List.length_nil, List.length_map, List.length_singleton, List.length_replicate, List.length_range, List.length_take, List.length_drop, List.length_reverse]; omega) | (simp; omega) | (simp; done))
def rd__law_some_factors (ks : List Nat) (sp__law_below : DSp) (sp__law_pick : DSp) : SD :=
  (wSeq (wAsg ks 3 (wLc ks (wItR1 (wCons (wOp gAdd (wC (.int 1)) (wCallR ks sp__law_below (wCons (wVar 0) (wCons (wOp gAdd (wVar 1) (wC (.int 1))) wNil)))) wNil)) (hName ks 4) wYes (wCallR ks sp__law_pick (wCons (wVar 0) (wCons (wLst ks (wCons (wC (.int 0)) (wCons (wC (.int 0)) (wCons (wC (.int 1)) (wCons (wC (.int 1)) (wCons (wCallR ks sp__law_below (wCons (wVar 0) (wCons (wOp gAdd (wVar 2) (wC (.int 1))) wNil))) wNil)))))) wNil))) [4]))
  (wSeq (wPut ks 3 (wUn gNeg (wC (.int 1))) (wIf (wBl (wOp (gInt fLt) (wOp gIx (wVar 3) (wUn gNeg (wC (.int 1)))) (wVar 2))) (wOp gAdd (wOp gIx (wVar 3) (wUn gNeg (wC (.int 1)))) (wC (.int 1))) (wOp gIx (wVar 3) (wUn gNeg (wC (.int 1))))))
  (wRet ks (wVar 3))))
def sp__law_some_factors : DSp := fun args Q _ => ∃ (n : Nat) (o : Own) (degree most : Nat), args = [.own o, .dat (.int degree), .dat (.int most)] ∧ Dk (n + (2 * (degree + 1) + 1)) o ∧ degree ≤ 100 ∧ most ≤ 1000000000 ∧ 1 ≤ most ∧
  ∀ (l : List Int) (o' : Own), l ≠ [] → l.length ≤ degree + 1 → (∀ i ∈ l, 0 ≤ i ∧ i ≤ (most : Int)) → Dk n o' → Q (.own (.lst (l.map .int))) [.own o', .dat (.int degree), .dat (.int most)]
theorem sf_comp {n most : Nat} {s1 s3 : Sl} (hm : most ≤ 1000000000) {QI : List D → Rho → Prop} : ∀ (ds : List D) (o : Own) (l : List Int), Dk (n + 2 * ds.length) o → l.length + ds.length ≤ 1000 → (∀ i ∈ l, 0 ≤ i ∧ i ≤ (most : Int)) →
    (∀ (o' : Own) (l' : List Int), Dk n o' → l'.length = l.length + ds.length → (∀ i ∈ l', 0 ≤ i ∧ i ≤ (most : Int)) → QI (l'.map .int) [.own o', s1, .dat (.int most), s3, .no]) → (1 ≤ most) →
    compL [0] (hName [0] 4) wYes (wCallR [0] sp__law_pick (wCons (wVar 0) (wCons (wLst [0] (wCons (wC (.int 0)) (wCons (wC (.int 0)) (wCons (wC (.int 1)) (wCons (wC (.int 1)) (wCons (wCallR [0] sp__law_below (wCons (wVar 0) (wCons (wOp gAdd (wVar 2) (wC (.int 1))) wNil))) wNil)))))) wNil))) [4] ds (l.map .int) [.own o, s1, .dat (.int most), s3, .no] QI
  | [], o, l, hd, hl, hr, q, _ => q o l hd rfl hr
  | d :: ds, o, l, hd, hl, hr, q, h1 => by
    rw [List.length_cons] at hd hl q
    walk_at "dl"
    refine ⟨n + (2 * ds.length + 1), o, _, rfl, hd.mono (by omega), by omega, by omega, fun r o1 r0 r1 hd1 => ?_⟩
    walk_at "dl"
    refine ⟨n + 2 * ds.length, o1, _, rfl, hd1.mono (by omega), by simp, by simp, fun x o2 hx hd2 => ?_⟩
    obtain ⟨p, rfl, hp⟩ : ∃ p : Int, x = .int p ∧ 0 ≤ p ∧ p ≤ (most : Int) := by
      simp only [List.mem_cons, List.not_mem_nil, or_false] at hx
      rcases hx with rfl | rfl | rfl | rfl | rfl
      · exact ⟨0, rfl, by omega, by omega⟩
      · exact ⟨0, rfl, by omega, by omega⟩
      · exact ⟨1, rfl, by omega, by omega⟩
      · exact ⟨1, rfl, by omega, by omega⟩
      · exact ⟨r, rfl, by omega, by omega⟩
    walk_at "dl"
    have e : l.map D.int ++ [D.int p] = (l ++ [p]).map D.int := by rw [List.map_append]; rfl
    rw [e]
    refine ⟨by omega, sf_comp hm ds o2 (l ++ [p]) hd2 (by rw [List.length_append, List.length_singleton]; omega) (fun i hi => ?_) (fun o' l' a1 a2 a3 => q o' l' a1 (by rw [a2, List.length_append, List.length_singleton]; omega) a3) h1⟩
    rcases List.mem_append.mp hi with h | h
    · exact hr i h
    · rw [List.mem_singleton.mp h]; exact hp
theorem pl__law_some_factors : PL 5 3 (fun ks => rd__law_some_factors ks sp__law_below sp__law_pick) sp__law_some_factors := fun args QD ED h => by
  obtain ⟨n, o, degree, most, rfl, hd, hg, hm, hm1, h⟩ := h
  refine ⟨rfl, ?_⟩
  unfold rd__law_some_factors
  walk_at "dl"
  refine ⟨n + 2 * (degree + 1), o, _, rfl, hd.mono (by omega), by omega, by omega, fun r o1 r0 r1 hd1 => ?_⟩
  walk_at "dl"
  have lr : (rangeD (1 + r)).length = (1 + r).toNat := by unfold rangeD; rw [List.length_map, List.length_range]
  refine ⟨by omega, by omega, fun o z => (by cases z), ?_⟩
  refine sf_comp (n := n) hm (rangeD (1 + r)) o1 [] (hd1.mono (by omega)) (by rw [List.length_nil]; omega) (fun i hi => (by cases hi)) (fun o2 l hd2 hl hr => ?_) hm1
  rw [List.length_nil, Nat.zero_add] at hl
  rcases List.eq_nil_or_concat l with rfl | ⟨m, z, rfl⟩
  · rw [List.length_nil] at hl; omega
  rw [List.concat_eq_append] at *
  have e : (m ++ [z]).map D.int = m.map D.int ++ [.int z] := by rw [List.map_append]; rfl
  have hz := hr z (List.mem_append_right _ List.mem_cons_self)
  have fin : ∀ y : Int, 0 ≤ y → y ≤ (most : Int) → QD (.own (.lst ((m ++ [y]).map .int))) [.own o2, .dat (.int degree), .dat (.int most)] := fun y y0 y1 => by
    refine h (m ++ [y]) o2 (by simp) ?_ (fun i hi => ?_) hd2
    · rw [List.length_append, List.length_singleton] at hl ⊢
      omega
    · rcases List.mem_append.mp hi with hi | hi
      · exact hr i (List.mem_append_left _ hi)
      · rw [List.mem_singleton.mp hi]; exact ⟨y0, y1⟩
  have ix : ixN (m.map D.int ++ [D.int z]).length (-1) = some m.length := by
    unfold ixN
    rw [if_neg (by decide), if_pos (by simp; omega)]
    congr 1
    simp
    omega
  have st : ∀ y : Int, (m.map D.int ++ [D.int z]).set m.length (.int y) = (m ++ [y]).map D.int := fun y => by
    rw [List.map_append, List.set_append_right _ _ (by rw [List.length_map]; exact Nat.le_refl _), List.length_map, Nat.sub_self]
    rfl
  rw [e]
  walk_at "dl"
  rw [lk_eq atI_end]
  walk_at "dl"
  by_cases hc : z < (most : Int)
  · rw [if_pos hc, lk_eq atI_end]
    try walk_at "dl"
    rw [lk_eq ix]
    try walk_at "dl"
    rw [st]
    exact fin _ (by omega) (by omega)
  · rw [if_neg hc, lk_eq atI_end]
    try walk_at "dl"
    rw [lk_eq ix]
    try walk_at "dl"
    rw [st]
    exact fin _ hz.1 hz.2



end DL

set_option Elab.async false
set_option maxRecDepth 100000
set_option maxHeartbeats 4000000
/-! S35a: records of sums and products. -/
namespace DL
open PySem PySem.Spec PyProof.Rows L2
local macro_rules | `(tactic| walk_at "dl") => `(tactic| simp (config := {decide := false, implicitDefEqProofs := false}) only [e_ixO, k_oi0, k_oi1, k_oi2, e_prop, k_pr1, k_pr2, e_binO, k_bo0, k_bo1, k_bo2, e_eqO, k_eo0, k_eo1, k_eo2, k_eo3, e_cnt, k_cn0, k_cn1, k_cn2, k_cn3, isLst_l, cntD_i, e_fld, k_fl1, k_fl2, k_fl3, insD_i, e_setF, k_sf1, k_sf2, q_sf, e_make, k_mk1, k_mk2, k_mk3, e_never, e_callRR, k_rr1, k_rr2, k_rr3, k_rr4, e_itEA, k_ea1, k_ea2, e_itT2, k_i1, k_i2, e_m1, k_m1, k_m1b, k_m2, k_m3, k_m4, e_itZ, k_z1, e_scLen, k_sc, k_scQ, compT_nil, compT_cons, k_t1, k_t2, k_t2b, k_t3, e_chain, k_ch, k_ch0, k_ch1, k_ch2, k_ch3, k_ch4, k_ch5, k_ch6, rev_l, rev_f, rev_t, clear_l, lista_s, max_2, min_2, inA_s, ix_s, mulA_si, seqE_nx, seqE_rt, seqE_bk, seqE_ct, loopE_nx, loopE_rt, loopE_bk, loopE_ct, e_seq, e_next, e_break, e_cont, e_retN, e_var, q_var_d, q_var_o, e_c, con_d, con_o, con_b, conS_d, conS_o, own_l, own_d, own_i, z_d, z_n, z_t, z_w, sl_d, sl_o, frz_d, frz_o, frz_b, q_frz_d, q_frz_o, frzs_nil, frzs_cons, k_fzs, k_fz, thin_d, thin_o, thin_b, k_th, thins_nil, thins_cons, k_ths, k_ts, setR_nil, setR_cons, k_e, e_op, k_op1, k_op2, k_op3, k_op4, e_un, k_un1, k_un2, e_nil, e_cons, k_co1, k_co2, conL_nil, conL_cons, k_cl, k_cl2, e_b, k_b1, k_b2, e_tup, k_tup1, k_tup2, e_lst, k_lst1, k_lst2, e_dct0, k_ret, e_call, k_ca1, k_ca2, k_retR, e_callR, k_cr1, k_cr2, k_cr3, e_tr, k_tr1, k_tr2, k_tr3, e_bl, k_bl, e_and, k_and, e_or, k_or, e_not, k_not, e_if, k_if, e_ifS, k_ifS, e_notV, k_nv1, k_nv2, e_andV, k_av1, k_av2, e_orV, k_ov1, k_ov2, bD_bl, e_sl, k_sl1, k_sl2, k_sl3, k_sl4, e_part, k_pt1, k_pt2, e_noP, e_dget, k_ge1, k_ge1b, k_ge2, k_ge3, k_ge4, dctD_d, keyD_i, keyD_s, e_mut, q_mu0, k_mu1, k_mu2, q_mu3, k_mu4, e_put, k_pu1, k_pu2, k_pu3, k_pu4, q_pu4, k_pu5, e_aug, q_au0, k_au1, k_au2, k_au3, e_asg, k_as1, k_as2, e_par, k_pa1, k_pa2, e_unp, k_up1, k_up2, e_hName, e_hNil, e_hCons, k_hc, e_hTup, e_hWt, e_drop, k_dr, e_ret, k_rt_d, k_rt_o, k_rt_b, q_out_o, q_out_d, forL_nil, forL_cons, k_fo2, e_for, k_fo1, k_wh, e_itS, k_it1, k_it2, k_it3, walk_l, walk_f, walk_t, e_itR1, k_r11, k_r12, e_itR2, k_r21, k_r22, e_itE, k_en1, k_en2, k_en3, list_l, list_f, e_lc, k_lc, k_lcQ, compL_nil, compL_cons, k_c1, k_c2, k_c3, k_c4, e_yes, wip_nil, wip_cons, unw_nil, unw_cons, g_int, f_add, f_sub, f_mul, f_div, f_mod, f_pow, f_lt, f_le, f_gt, f_ge, add_i, add_s, add_l, add_t, mul_i, mul_l, mul_t, neg_i, ix_l, ix_t, sl_l, sl_f, sl_t, len_l, len_f, len_t, len_s, abs_i, int_i, lof_l, lof_f, lof_t, tof_l, tof_f, tof_t, dof_t, app_l, ext_t, ext_l, tru_b, tru_i, tru_l, tru_t, tru_n, augN, subN, is_bl, is_non, ixN4_0, ixN4_1, ixN4_2, ixN4_3, lk_some, lk_ite, lk_map, lk_bind, ixOf, endsF_nx, endsF_dat, endsF_own, atI_0, atI_1, atI_2, atI_3, eqA_l0, eqA_tup0, eqA_int, eqA_non, bne_f, bne_t, sizeLine_eq,
  List.cons_append, List.nil_append, List.getElem?_cons_zero, List.getElem?_cons_succ, List.set_cons_zero, List.set_cons_succ, List.length_cons, List.length_nil, List.replicate, List.take_succ_cons, List.take_zero, List.not_mem_nil, List.mem_cons, List.map_cons, List.map_nil, if_false, if_true, Option.map_some, Option.bind_some, Option.getD_some, Nat.reduceAdd, Nat.reduceSub, Nat.reduceLeDiff, Nat.reduceEqDiff, Nat.succ_ne_zero, Nat.zero_ne_one, Nat.one_ne_zero, List.isEmpty_nil, List.isEmpty_cons, List.length_map, List.isEmpty_map, beq_iff_eq, Bool.not_eq_true, reduceCtorEq, or_false, or_true, false_or, true_or, and_true, true_and, List.cons.injEq, Option.some.injEq, Sl.own.injEq, Own.lst.injEq, exists_eq', not_false_eq_true, forall_const, forall_eq, forall_eq_or_imp, decide_eq_true_eq, Bool.not_true, Bool.not_false, Bool.false_eq_true, ite_self])
local macro_rules | `(tactic| walk_at "dlf") => `(tactic| simp (config := {decide := false, implicitDefEqProofs := false}) only [e_ixO, k_oi0, k_oi1, k_oi2, e_prop, k_pr1, k_pr2, e_binO, k_bo0, k_bo1, k_bo2, e_eqO, k_eo0, k_eo1, k_eo2, k_eo3, e_cnt, k_cn0, k_cn1, k_cn2, k_cn3, isLst_l, cntD_i, e_fld, k_fl1, k_fl2, k_fl3, insD_i, e_setF, k_sf1, k_sf2, q_sf, e_make, k_mk1, k_mk2, k_mk3, e_never, e_callRR, k_rr1, k_rr2, k_rr3, k_rr4, e_itEA, k_ea1, k_ea2, e_itT2, k_i1, k_i2, e_m1, k_m1, k_m1b, k_m2, k_m3, k_m4, e_itZ, k_z1, e_scLen, k_sc, k_scQ, compT_nil, compT_cons, k_t1, k_t2, k_t2b, k_t3, e_chain, k_ch, k_ch0, k_ch1, k_ch2, k_ch3, k_ch4, k_ch5, k_ch6, rev_l, rev_f, rev_t, clear_l, lista_s, max_2, min_2, inA_s, ix_s, mulA_si, seqE_nx, seqE_rt, seqE_bk, seqE_ct, loopE_nx, loopE_rt, loopE_bk, loopE_ct, e_seq, e_next, e_break, e_cont, e_retN, e_var, q_var_d, q_var_o, e_c, con_d, con_o, con_b, conS_d, conS_o, own_l, own_d, own_i, z_d, z_n, z_t, z_w, sl_d, sl_o, frz_d, frz_o, frz_b, q_frz_d, q_frz_o, frzs_nil, frzs_cons, k_fzs, k_fz, thin_d, thin_o, thin_b, k_th, thins_nil, thins_cons, k_ths, k_ts, setR_nil, setR_cons, k_e, e_op, k_op1, k_op2, k_op3, k_op4, e_un, k_un1, k_un2, e_nil, e_cons, k_co1, k_co2, conL_nil, conL_cons, k_cl, k_cl2, e_b, k_b1, k_b2, e_tup, k_tup1, k_tup2, e_lst, k_lst1, k_lst2, e_dct0, k_ret, e_call, k_ca1, k_ca2, k_retR, e_callR, k_cr1, k_cr2, k_cr3, e_tr, k_tr1, k_tr2, k_tr3, e_bl, k_bl, e_and, k_and, e_or, k_or, e_not, k_not, e_if, k_if, e_ifS, k_ifS, e_notV, k_nv1, k_nv2, e_andV, k_av1, k_av2, e_orV, k_ov1, k_ov2, bD_bl, e_sl, k_sl1, k_sl2, k_sl3, k_sl4, e_part, k_pt1, k_pt2, e_noP, e_dget, k_ge1, k_ge1b, k_ge2, k_ge3, k_ge4, dctD_d, keyD_i, keyD_s, e_mut, q_mu0, k_mu1, k_mu2, q_mu3, k_mu4, e_put, k_pu1, k_pu2, k_pu3, k_pu4, q_pu4, k_pu5, e_aug, q_au0, k_au1, k_au2, k_au3, e_asg, k_as1, k_as2, e_par, k_pa1, k_pa2, e_unp, k_up1, k_up2, e_hName, e_hNil, e_hCons, k_hc, e_hTup, e_hWt, e_drop, k_dr, e_ret, k_rt_d, k_rt_o, k_rt_b, q_out_o, q_out_d, forL_nil, k_fo2, e_for, k_fo1, k_wh, e_itS, k_it1, k_it2, k_it3, walk_l, walk_f, walk_t, e_itR1, k_r11, k_r12, e_itR2, k_r21, k_r22, e_itE, k_en1, k_en2, k_en3, list_l, list_f, e_lc, k_lc, k_lcQ, compL_nil, k_c1, k_c2, k_c3, k_c4, e_yes, wip_nil, wip_cons, unw_nil, unw_cons, g_int, f_add, f_sub, f_mul, f_div, f_mod, f_pow, f_lt, f_le, f_gt, f_ge, add_i, add_s, add_l, add_t, mul_i, mul_l, mul_t, neg_i, ix_l, ix_t, sl_l, sl_f, sl_t, len_l, len_f, len_t, len_s, abs_i, int_i, lof_l, lof_f, lof_t, tof_l, tof_f, tof_t, dof_t, app_l, ext_t, ext_l, tru_b, tru_i, tru_l, tru_t, tru_n, augN, subN, is_bl, is_non, ixN4_0, ixN4_1, ixN4_2, ixN4_3, lk_some, lk_ite, lk_map, lk_bind, ixOf, endsF_nx, endsF_dat, endsF_own, atI_0, atI_1, atI_2, atI_3, eqA_l0, eqA_tup0, eqA_int, eqA_non, bne_f, bne_t, sizeLine_eq,
  List.cons_append, List.nil_append, List.getElem?_cons_zero, List.getElem?_cons_succ, List.set_cons_zero, List.set_cons_succ, List.length_cons, List.length_nil, List.replicate, List.take_succ_cons, List.take_zero, List.not_mem_nil, List.mem_cons, List.map_cons, List.map_nil, if_false, if_true, Option.map_some, Option.bind_some, Option.getD_some, Nat.reduceAdd, Nat.reduceSub, Nat.reduceLeDiff, Nat.reduceEqDiff, Nat.succ_ne_zero, Nat.zero_ne_one, Nat.one_ne_zero, List.isEmpty_nil, List.isEmpty_cons, List.length_map, List.isEmpty_map, beq_iff_eq, Bool.not_eq_true, reduceCtorEq, or_false, or_true, false_or, true_or, and_true, true_and, List.cons.injEq, Option.some.injEq, Sl.own.injEq, Own.lst.injEq, exists_eq', not_false_eq_true, forall_const, forall_eq, forall_eq_or_imp, decide_eq_true_eq, Bool.not_true, Bool.not_false, Bool.false_eq_true, ite_self])
local macro_rules | `(tactic| walk_at "len") => `(tactic| first | omega | (simp only [List.length_append, List.length_cons, List.length_nil, List.length_map, List.length_singleton, List.length_replicate, List.length_range, List.length_take, List.length_drop, List.length_reverse]; omega) | (simp; omega) | (simp; done))
theorem strOk_int (i : Int) : PyData.strOk (Str.ofString (toString i)) = true := by
  unfold PyData.strOk
  rw [← Array.all_toList, List.all_eq_true]
  intro c hc
  have h : ¬ (57 < c) := fun h => int_text_free' c ⟨by omega, .inr h⟩ i hc
  exact decide_eq_true (by omega)
theorem strI_ok {i : Int} (h : i.natAbs.log2 < 1920) : gStrI [.int i] = some (.d (.str (Str.ofString (toString i)))) := by rw [gStrI_eq]; exact if_pos h
theorem log_100 {i : Int} (h : i.natAbs < 1000) : i.natAbs.log2 < 1920 := by
  have := Nat.log2_le_self i.natAbs
  omega
/-! ### marks in the place of trees -/
def mkS (s : Str) (p : Nat) : Str := s ++ Str.ofString (toString ((p : Nat) : Int))
def markD (s : Str) (p : Nat) : D := .tup [.str (mkS s p)]
def marksL (s : Str) (j : Nat) : List D := (List.range j).map (markD s)
def recS (s : Str) (q : Nat × Nat) : D := .tup [.int (q.1 : Nat), .int (q.2 : Nat), .tup (marksL s q.1)]
def rd__law_marks_of (ks : List Nat) : SD :=
  (wRet ks (wB gTupOf (wCons (wLc ks (wItR1 (wCons (wVar 0) wNil)) (hName ks 2) wYes (wTup ks (wCons (wOp gAdd (wVar 1) (wB gStrI (wCons (wVar 2) wNil))) wNil)) [2]) wNil)))
def sp__law_marks_of : DSp := fun args Q _ => ∃ (j : Nat) (s : Str), args = [.dat (.int (j : Nat)), .dat (.str s)] ∧ j ≤ 100 ∧ s.length ≤ 10 ∧ Q (.dat (.tup (marksL s j))) [.dat (.int (j : Nat)), .dat (.str s)]
theorem pl__law_marks_of : PL 3 2 rd__law_marks_of sp__law_marks_of := fun args QD ED h => by
  obtain ⟨j, s, rfl, hj, hs, h⟩ := h
  refine ⟨rfl, ?_⟩
  unfold rd__law_marks_of
  walk_at "dlf"
  have e : rangeD (j : Nat) = (List.range j).map fun n => .int (n : Nat) := by unfold rangeD; rw [Int.toNat_natCast]
  rw [e]
  refine ⟨by omega, by omega, fun o z => (by cases z), ?_⟩
  refine at_comp (P := fun n => n < 100) (g := fun n : Nat => .int (n : Nat)) (f := markD s) (fun n Q hn q => ?_) rfl (List.range j) [] (fun n hn => by have := List.mem_range.mp hn; omega) (by walk_at "len") ?_
  · have hl := log_100 (i := (n : Nat)) (by omega)
    walk_at "dlf"
    rw [lk_eq (strI_ok hl)]
    try walk_at "dlf"
    refine ⟨by have := int_text_len_1921 hl; omega, ?_⟩
    exact q
  · rw [List.nil_append]
    walk_at "dlf"
    exact h
/-! ### all records of a layout -/
def allP (l : List Int) : List (Nat × Nat) := (List.range l.length).flatMap fun j => (List.range (getZ l j).toNat).map fun i => (j, i)
def rd__law_all (ks : List Nat) (sp__law_marks_of : DSp) : SD :=
  (wSeq (wAsg ks 2 (wLst ks wNil))
  (wSeq (wFor (wItE ks (wCons (wVar 0) wNil)) (hTup 2 (hCons (hName ks 3) (hCons (hName ks 4) hNil))) (wDrop (wMut ks 2 gExtend (wCons (wLc ks (wItR1 (wCons (wVar 4) wNil)) (hName ks 5) wYes (wTup ks (wCons (wVar 3) (wCons (wVar 5) (wCons (wCall ks sp__law_marks_of (wCons (wVar 3) (wCons (wVar 1) wNil))) wNil)))) [5]) wNil))))
  (wRet ks (wVar 2))))
def sp__law_all : DSp := fun args Q _ => ∃ (l : List Int) (s : Str), args = [.dat (.lst (l.map .int)), .dat (.str s)] ∧ l.length ≤ 20 ∧ (∀ i ∈ l, 0 ≤ i ∧ i ≤ 20) ∧ s.length ≤ 10 ∧ Q (.own (.lst ((allP l).map (recS s)))) [.dat (.lst (l.map .int)), .dat (.str s)]
abbrev alBody : SD := (wDrop (wMut [] 2 gExtend (wCons (wLc [] (wItR1 (wCons (wVar 4) wNil)) (hName [] 5) wYes (wTup [] (wCons (wVar 3) (wCons (wVar 5) (wCons (wCall [] sp__law_marks_of (wCons (wVar 3) (wCons (wVar 1) wNil))) wNil)))) [5]) wNil)))
theorem al_loop {s0 : Sl} {s : Str} (hs : s.length ≤ 10) (A : Nat → Int) (hA : ∀ n, 0 ≤ A n ∧ A n ≤ 20) {DD : EndsD} : ∀ (m n : Nat) (acc : List D) (s3 s4 : Sl), n + m ≤ 20 → acc.length ≤ 20 * n →
    (∀ s3 s4, DD.nx [s0, .dat (.str s), .own (.lst (acc ++ ((List.range' n m).flatMap fun j => (List.range (A j).toNat).map fun i => (j, i)).map (recS s))), s3, s4, .no]) →
    forL (hTup 2 (hCons (hName [] 3) (hCons (hName [] 4) hNil))) alBody DD ((List.range' n m).map fun j => .wt [.int (j : Nat), .int (A j)]) [s0, .dat (.str s), .own (.lst acc), s3, s4, .no]
  | 0, n, acc, s3, s4, _, _, h => by
    have := h s3 s4
    rw [show (List.range' n 0) = [] from rfl, List.flatMap_nil, List.map_nil, List.append_nil] at this
    exact this
  | m + 1, n, acc, s3, s4, hm, hl, h => by
    have hn := hA n
    rw [List.range'_succ, List.map_cons, forL_cons]
    walk_at "dlf"
    have e : rangeD (A n) = (List.range (A n).toNat).map fun n => .int (n : Nat) := rfl
    rw [e]
    refine ⟨by omega, by omega, fun o z => (by cases z), ?_⟩
    refine at_comp (P := fun _ => True) (g := fun i : Nat => .int (i : Nat)) (f := fun i => recS s (n, i)) (fun i Q _ q => ?_) rfl (List.range (A n).toNat) [] (fun _ _ => True.intro) (by walk_at "len") ?_
    · walk_at "dlf"
      refine ⟨n, s, rfl, by omega, hs, ?_⟩
      walk_at "dlf"
      exact q
    · rw [List.nil_append]
      walk_at "dlf"
      refine ⟨by walk_at "len", ?_⟩
      refine al_loop hs A hA m (n + 1) _ _ _ (by omega) (by rw [List.length_append, List.length_map, List.length_range]; omega) fun s3 s4 => ?_
      have := h s3 s4
      rw [List.range'_succ, List.flatMap_cons, List.map_append, List.map_map] at this
      rw [List.append_assoc]
      exact this
theorem map_range (l : List Int) : l.map D.int = (List.range l.length).map fun n => D.int (getZ l n) := by
  refine List.ext_getElem? fun n => ?_
  rw [List.getElem?_map, List.getElem?_map]
  by_cases h : n < l.length
  · rw [List.getElem?_range h, List.getElem?_eq_getElem h]
    unfold getZ
    show some (D.int l[n]) = some (D.int ((l[n]?).getD 0))
    rw [List.getElem?_eq_getElem h]; rfl
  · rw [List.getElem?_eq_none (by omega), List.getElem?_eq_none (by rw [List.length_range]; omega)]; rfl
theorem getZ_rng {l : List Int} {m : Int} (hm : 0 ≤ m) (h : ∀ i ∈ l, 0 ≤ i ∧ i ≤ m) (n : Nat) : 0 ≤ getZ l n ∧ getZ l n ≤ m := by
  unfold getZ
  cases e : l[n]? with
  | none => exact ⟨Int.le_refl _, hm⟩
  | some v => exact h v (List.mem_of_getElem? e)
theorem pl__law_all : PL 6 2 (fun ks => rd__law_all ks sp__law_marks_of) sp__law_all := fun args QD ED h => by
  obtain ⟨l, s, rfl, hl, hr, hs, h⟩ := h
  refine ⟨rfl, ?_⟩
  unfold rd__law_all
  walk_at "dlf"
  rw [show enumD 0 (l.map D.int) = (List.range' 0 l.length).map fun n : Nat => .wt [.int (n : Nat), .int (getZ l n)] by rw [map_range, enum0, List.range_eq_range']]
  refine al_loop hs (getZ l) (getZ_rng (by decide) hr) l.length 0 [] .no .no (by omega) (by simp) fun s3 s4 => ?_
  walk_at "dlf"
  rw [← List.range_eq_range']
  exact h
/-! ### sums -/
def rd_into_sum (ks : List Nat) (LC : Addr) (sp_factor_at : DSp) : SD :=
  (wSeq (wUnp ks (wVar 3) (hTup 3 (hCons (hName ks 4) (hCons (hName ks 5) (hCons (hName ks 6) hNil)))))
  (wRet ks (wIf (wBl (wOp (gEqA false) (wVar 2) (wC (.int 1)))) (wTup ks (wCons (wVar 4) (wCons (wOp gAdd (wVar 5) (wCall ks sp_factor_at (wCons (wFld LC "factors" (wVar 0)) (wCons (wVar 4) wNil)))) (wCons (wVar 6) wNil)))) (wVar 3))))
def sp_into_sum (LC : Addr) : DSp := fun args Q _ => ∃ (s t : List Int) (c k i : Int) (m : D), args = [.dat (.ins LC (layF s)), .dat (.ins LC (layF t)), .dat (.int c), .dat (.tup [.int k, .int i, m])] ∧
  Q (.dat (.tup [.int k, .int (if c = 1 then i + facAt s k else i), m])) [.dat (.ins LC (layF s)), .dat (.ins LC (layF t)), .dat (.int c), .dat (.tup [.int k, .int i, m])]
theorem pl_into_sum (LC : Addr) : PL 7 4 (fun ks => rd_into_sum ks LC sp_factor_at) (sp_into_sum LC) := fun args QD ED h => by
  obtain ⟨s, t, c, k, i, m, rfl, h⟩ := h
  refine ⟨rfl, ?_⟩
  unfold rd_into_sum
  walk_at "dlf"
  by_cases hc : c = 1
  · rw [if_pos hc, lk_eq lay_f]
    rw [if_pos hc] at h
    try walk_at "dlf"
    refine ⟨s, k, rfl, ?_⟩
    walk_at "dlf"
    exact h
  · rw [if_neg hc]
    rw [if_neg hc] at h
    exact h
def rd_from_sum (ks : List Nat) (LC : Addr) (sp_factor_at : DSp) : SD :=
  (wSeq (wUnp ks (wVar 2) (hTup 3 (hCons (hName ks 3) (hCons (hName ks 4) (hCons (hName ks 5) hNil)))))
  (wSeq (wAsg ks 6 (wCall ks sp_factor_at (wCons (wFld LC "factors" (wVar 0)) (wCons (wVar 3) wNil))))
  (wRet ks (wIf (wBl (wOp (gInt fLt) (wVar 4) (wVar 6))) (wTup ks (wCons (wC (.int 0)) (wCons (wVar 2) wNil))) (wTup ks (wCons (wC (.int 1)) (wCons (wTup ks (wCons (wVar 3) (wCons (wOp (gInt fSub) (wVar 4) (wVar 6)) (wCons (wVar 5) wNil)))) wNil)))))))
def sp_from_sum (LC : Addr) : DSp := fun args Q _ => ∃ (s t : List Int) (k i : Int) (m : D), args = [.dat (.ins LC (layF s)), .dat (.ins LC (layF t)), .dat (.tup [.int k, .int i, m])] ∧
  Q (.dat (if i < facAt s k then .tup [.int 0, .tup [.int k, .int i, m]] else .tup [.int 1, .tup [.int k, .int (i - facAt s k), m]])) [.dat (.ins LC (layF s)), .dat (.ins LC (layF t)), .dat (.tup [.int k, .int i, m])]
theorem pl_from_sum (LC : Addr) : PL 7 3 (fun ks => rd_from_sum ks LC sp_factor_at) (sp_from_sum LC) := fun args QD ED h => by
  obtain ⟨s, t, k, i, m, rfl, h⟩ := h
  refine ⟨rfl, ?_⟩
  unfold rd_from_sum
  walk_at "dlf"
  rw [lk_eq lay_f]
  walk_at "dlf"
  refine ⟨s, k, rfl, ?_⟩
  walk_at "dlf"
  by_cases hc : i < facAt s k
  · rw [if_pos hc]
    rw [if_pos hc] at h
    exact h
  · rw [if_neg hc]
    rw [if_neg hc] at h
    exact h
/-! ### products -/
/-- how many pairs come ahead -/
def paN (s t : List Int) (k : Int) : Nat → Int
  | 0 => 0
  | m + 1 => paN s t k m + facAt s m * facAt t (k - (m : Int))
theorem paN_sum (s t : List Int) (k : Int) : ∀ m, paN s t k m = ((List.range m).map fun j : Nat => facAt s (j : Nat) * facAt t (k - (j : Int))).sum
  | 0 => rfl
  | m + 1 => by
    rw [List.range_succ, List.map_append, List.sum_append, ← paN_sum s t k m]
    simp [paN]
def rd_pairs_ahead (ks : List Nat) (LC : Addr) (sp_factor_at : DSp) : SD :=
  (wRet ks (wB gSum (wCons (wLc ks (wItR1 (wCons (wVar 3) wNil)) (hName ks 4) wYes (wOp gMul (wCall ks sp_factor_at (wCons (wFld LC "factors" (wVar 0)) (wCons (wVar 4) wNil))) (wCall ks sp_factor_at (wCons (wFld LC "factors" (wVar 1)) (wCons (wOp (gInt fSub) (wVar 2) (wVar 4)) wNil)))) [4]) wNil)))
def LogOk (s : List Int) : Prop := ∀ i ∈ s, i.natAbs.log2 < 400000
def sp_pairs_ahead (LC : Addr) : DSp := fun args Q _ => ∃ (s t : List Int) (k : Int) (m : Nat), args = [.dat (.ins LC (layF s)), .dat (.ins LC (layF t)), .dat (.int k), .dat (.int (m : Nat))] ∧ m ≤ 1000 ∧ LogOk s ∧ LogOk t ∧
  Q (.dat (.int (paN s t k m))) [.dat (.ins LC (layF s)), .dat (.ins LC (layF t)), .dat (.int k), .dat (.int (m : Nat))]
theorem pl_pairs_ahead (LC : Addr) : PL 5 4 (fun ks => rd_pairs_ahead ks LC sp_factor_at) (sp_pairs_ahead LC) := fun args QD ED h => by
  obtain ⟨s, t, k, m, rfl, hm, ls, lt, h⟩ := h
  refine ⟨rfl, ?_⟩
  unfold rd_pairs_ahead
  walk_at "dlf"
  rw [show rangeD (m : Nat) = (List.range m).map fun n => .int (n : Nat) by unfold rangeD; rw [Int.toNat_natCast]]
  refine ⟨by omega, by omega, fun o z => (by cases z), ?_⟩
  refine at_comp (P := fun _ => True) (g := fun n : Nat => .int (n : Nat)) (f := fun j : Nat => .int (facAt s (j : Nat) * facAt t (k - (j : Int)))) (fun n Q _ q => ?_) rfl (List.range m) [] (fun _ _ => True.intro) (by walk_at "len") ?_
  · walk_at "dlf"
    rw [lk_eq lay_f]
    walk_at "dlf"
    refine ⟨s, (n : Nat), rfl, ?_⟩
    walk_at "dlf"
    rw [lk_eq lay_f]
    walk_at "dlf"
    refine ⟨t, k - (n : Nat), rfl, ?_⟩
    walk_at "dlf"
    refine ⟨by have := fac_log (by decide) ls (n : Nat); have := fac_log (by decide) lt (k - (n : Nat)); omega, ?_⟩
    exact q
  · rw [List.nil_append]
    walk_at "dlf"
    rw [show (List.range m).map (fun j : Nat => D.int (facAt s (j : Nat) * facAt t (k - (j : Int)))) = ((List.range m).map fun j : Nat => facAt s (j : Nat) * facAt t (k - (j : Int))).map .int by rw [List.map_map]; rfl, lk_eq (sum_l _), ← paN_sum]
    walk_at "dlf"
    exact h

end DL

set_option Elab.async false
set_option maxRecDepth 100000
set_option maxHeartbeats 4000000
/-! S35b: products. -/
namespace DL
open PySem PySem.Spec PyProof.Rows L2
local macro_rules | `(tactic| walk_at "dl") => `(tactic| simp (config := {decide := false, implicitDefEqProofs := false}) only [e_ixO, k_oi0, k_oi1, k_oi2, e_prop, k_pr1, k_pr2, e_binO, k_bo0, k_bo1, k_bo2, e_eqO, k_eo0, k_eo1, k_eo2, k_eo3, e_cnt, k_cn0, k_cn1, k_cn2, k_cn3, isLst_l, cntD_i, e_fld, k_fl1, k_fl2, k_fl3, insD_i, e_setF, k_sf1, k_sf2, q_sf, e_make, k_mk1, k_mk2, k_mk3, e_never, e_callRR, k_rr1, k_rr2, k_rr3, k_rr4, e_itEA, k_ea1, k_ea2, e_itT2, k_i1, k_i2, e_m1, k_m1, k_m1b, k_m2, k_m3, k_m4, e_itZ, k_z1, e_scLen, k_sc, k_scQ, compT_nil, compT_cons, k_t1, k_t2, k_t2b, k_t3, e_chain, k_ch, k_ch0, k_ch1, k_ch2, k_ch3, k_ch4, k_ch5, k_ch6, rev_l, rev_f, rev_t, clear_l, lista_s, max_2, min_2, inA_s, ix_s, mulA_si, seqE_nx, seqE_rt, seqE_bk, seqE_ct, loopE_nx, loopE_rt, loopE_bk, loopE_ct, e_seq, e_next, e_break, e_cont, e_retN, e_var, q_var_d, q_var_o, e_c, con_d, con_o, con_b, conS_d, conS_o, own_l, own_d, own_i, z_d, z_n, z_t, z_w, sl_d, sl_o, frz_d, frz_o, frz_b, q_frz_d, q_frz_o, frzs_nil, frzs_cons, k_fzs, k_fz, thin_d, thin_o, thin_b, k_th, thins_nil, thins_cons, k_ths, k_ts, setR_nil, setR_cons, k_e, e_op, k_op1, k_op2, k_op3, k_op4, e_un, k_un1, k_un2, e_nil, e_cons, k_co1, k_co2, conL_nil, conL_cons, k_cl, k_cl2, e_b, k_b1, k_b2, e_tup, k_tup1, k_tup2, e_lst, k_lst1, k_lst2, e_dct0, k_ret, e_call, k_ca1, k_ca2, k_retR, e_callR, k_cr1, k_cr2, k_cr3, e_tr, k_tr1, k_tr2, k_tr3, e_bl, k_bl, e_and, k_and, e_or, k_or, e_not, k_not, e_if, k_if, e_ifS, k_ifS, e_notV, k_nv1, k_nv2, e_andV, k_av1, k_av2, e_orV, k_ov1, k_ov2, bD_bl, e_sl, k_sl1, k_sl2, k_sl3, k_sl4, e_part, k_pt1, k_pt2, e_noP, e_dget, k_ge1, k_ge1b, k_ge2, k_ge3, k_ge4, dctD_d, keyD_i, keyD_s, e_mut, q_mu0, k_mu1, k_mu2, q_mu3, k_mu4, e_put, k_pu1, k_pu2, k_pu3, k_pu4, q_pu4, k_pu5, e_aug, q_au0, k_au1, k_au2, k_au3, e_asg, k_as1, k_as2, e_par, k_pa1, k_pa2, e_unp, k_up1, k_up2, e_hName, e_hNil, e_hCons, k_hc, e_hTup, e_hWt, e_drop, k_dr, e_ret, k_rt_d, k_rt_o, k_rt_b, q_out_o, q_out_d, forL_nil, forL_cons, k_fo2, e_for, k_fo1, k_wh, e_itS, k_it1, k_it2, k_it3, walk_l, walk_f, walk_t, e_itR1, k_r11, k_r12, e_itR2, k_r21, k_r22, e_itE, k_en1, k_en2, k_en3, list_l, list_f, e_lc, k_lc, k_lcQ, compL_nil, compL_cons, k_c1, k_c2, k_c3, k_c4, e_yes, wip_nil, wip_cons, unw_nil, unw_cons, g_int, f_add, f_sub, f_mul, f_div, f_mod, f_pow, f_lt, f_le, f_gt, f_ge, add_i, add_s, add_l, add_t, mul_i, mul_l, mul_t, neg_i, ix_l, ix_t, sl_l, sl_f, sl_t, len_l, len_f, len_t, len_s, abs_i, int_i, lof_l, lof_f, lof_t, tof_l, tof_f, tof_t, dof_t, app_l, ext_t, ext_l, tru_b, tru_i, tru_l, tru_t, tru_n, augN, subN, is_bl, is_non, ixN4_0, ixN4_1, ixN4_2, ixN4_3, lk_some, lk_ite, lk_map, lk_bind, ixOf, endsF_nx, endsF_dat, endsF_own, atI_0, atI_1, atI_2, atI_3, eqA_l0, eqA_tup0, eqA_int, eqA_non, bne_f, bne_t, sizeLine_eq,
  List.cons_append, List.nil_append, List.getElem?_cons_zero, List.getElem?_cons_succ, List.set_cons_zero, List.set_cons_succ, List.length_cons, List.length_nil, List.replicate, List.take_succ_cons, List.take_zero, List.not_mem_nil, List.mem_cons, List.map_cons, List.map_nil, if_false, if_true, Option.map_some, Option.bind_some, Option.getD_some, Nat.reduceAdd, Nat.reduceSub, Nat.reduceLeDiff, Nat.reduceEqDiff, Nat.succ_ne_zero, Nat.zero_ne_one, Nat.one_ne_zero, List.isEmpty_nil, List.isEmpty_cons, List.length_map, List.isEmpty_map, beq_iff_eq, Bool.not_eq_true, reduceCtorEq, or_false, or_true, false_or, true_or, and_true, true_and, List.cons.injEq, Option.some.injEq, Sl.own.injEq, Own.lst.injEq, exists_eq', not_false_eq_true, forall_const, forall_eq, forall_eq_or_imp, decide_eq_true_eq, Bool.not_true, Bool.not_false, Bool.false_eq_true, ite_self])
local macro_rules | `(tactic| walk_at "dlf") => `(tactic| simp (config := {decide := false, implicitDefEqProofs := false}) only [e_ixO, k_oi0, k_oi1, k_oi2, e_prop, k_pr1, k_pr2, e_binO, k_bo0, k_bo1, k_bo2, e_eqO, k_eo0, k_eo1, k_eo2, k_eo3, e_cnt, k_cn0, k_cn1, k_cn2, k_cn3, isLst_l, cntD_i, e_fld, k_fl1, k_fl2, k_fl3, insD_i, e_setF, k_sf1, k_sf2, q_sf, e_make, k_mk1, k_mk2, k_mk3, e_never, e_callRR, k_rr1, k_rr2, k_rr3, k_rr4, e_itEA, k_ea1, k_ea2, e_itT2, k_i1, k_i2, e_m1, k_m1, k_m1b, k_m2, k_m3, k_m4, e_itZ, k_z1, e_scLen, k_sc, k_scQ, compT_nil, compT_cons, k_t1, k_t2, k_t2b, k_t3, e_chain, k_ch, k_ch0, k_ch1, k_ch2, k_ch3, k_ch4, k_ch5, k_ch6, rev_l, rev_f, rev_t, clear_l, lista_s, max_2, min_2, inA_s, ix_s, mulA_si, seqE_nx, seqE_rt, seqE_bk, seqE_ct, loopE_nx, loopE_rt, loopE_bk, loopE_ct, e_seq, e_next, e_break, e_cont, e_retN, e_var, q_var_d, q_var_o, e_c, con_d, con_o, con_b, conS_d, conS_o, own_l, own_d, own_i, z_d, z_n, z_t, z_w, sl_d, sl_o, frz_d, frz_o, frz_b, q_frz_d, q_frz_o, frzs_nil, frzs_cons, k_fzs, k_fz, thin_d, thin_o, thin_b, k_th, thins_nil, thins_cons, k_ths, k_ts, setR_nil, setR_cons, k_e, e_op, k_op1, k_op2, k_op3, k_op4, e_un, k_un1, k_un2, e_nil, e_cons, k_co1, k_co2, conL_nil, conL_cons, k_cl, k_cl2, e_b, k_b1, k_b2, e_tup, k_tup1, k_tup2, e_lst, k_lst1, k_lst2, e_dct0, k_ret, e_call, k_ca1, k_ca2, k_retR, e_callR, k_cr1, k_cr2, k_cr3, e_tr, k_tr1, k_tr2, k_tr3, e_bl, k_bl, e_and, k_and, e_or, k_or, e_not, k_not, e_if, k_if, e_ifS, k_ifS, e_notV, k_nv1, k_nv2, e_andV, k_av1, k_av2, e_orV, k_ov1, k_ov2, bD_bl, e_sl, k_sl1, k_sl2, k_sl3, k_sl4, e_part, k_pt1, k_pt2, e_noP, e_dget, k_ge1, k_ge1b, k_ge2, k_ge3, k_ge4, dctD_d, keyD_i, keyD_s, e_mut, q_mu0, k_mu1, k_mu2, q_mu3, k_mu4, e_put, k_pu1, k_pu2, k_pu3, k_pu4, q_pu4, k_pu5, e_aug, q_au0, k_au1, k_au2, k_au3, e_asg, k_as1, k_as2, e_par, k_pa1, k_pa2, e_unp, k_up1, k_up2, e_hName, e_hNil, e_hCons, k_hc, e_hTup, e_hWt, e_drop, k_dr, e_ret, k_rt_d, k_rt_o, k_rt_b, q_out_o, q_out_d, forL_nil, k_fo2, e_for, k_fo1, k_wh, e_itS, k_it1, k_it2, k_it3, walk_l, walk_f, walk_t, e_itR1, k_r11, k_r12, e_itR2, k_r21, k_r22, e_itE, k_en1, k_en2, k_en3, list_l, list_f, e_lc, k_lc, k_lcQ, compL_nil, k_c1, k_c2, k_c3, k_c4, e_yes, wip_nil, wip_cons, unw_nil, unw_cons, g_int, f_add, f_sub, f_mul, f_div, f_mod, f_pow, f_lt, f_le, f_gt, f_ge, add_i, add_s, add_l, add_t, mul_i, mul_l, mul_t, neg_i, ix_l, ix_t, sl_l, sl_f, sl_t, len_l, len_f, len_t, len_s, abs_i, int_i, lof_l, lof_f, lof_t, tof_l, tof_f, tof_t, dof_t, app_l, ext_t, ext_l, tru_b, tru_i, tru_l, tru_t, tru_n, augN, subN, is_bl, is_non, ixN4_0, ixN4_1, ixN4_2, ixN4_3, lk_some, lk_ite, lk_map, lk_bind, ixOf, endsF_nx, endsF_dat, endsF_own, atI_0, atI_1, atI_2, atI_3, eqA_l0, eqA_tup0, eqA_int, eqA_non, bne_f, bne_t, sizeLine_eq,
  List.cons_append, List.nil_append, List.getElem?_cons_zero, List.getElem?_cons_succ, List.set_cons_zero, List.set_cons_succ, List.length_cons, List.length_nil, List.replicate, List.take_succ_cons, List.take_zero, List.not_mem_nil, List.mem_cons, List.map_cons, List.map_nil, if_false, if_true, Option.map_some, Option.bind_some, Option.getD_some, Nat.reduceAdd, Nat.reduceSub, Nat.reduceLeDiff, Nat.reduceEqDiff, Nat.succ_ne_zero, Nat.zero_ne_one, Nat.one_ne_zero, List.isEmpty_nil, List.isEmpty_cons, List.length_map, List.isEmpty_map, beq_iff_eq, Bool.not_eq_true, reduceCtorEq, or_false, or_true, false_or, true_or, and_true, true_and, List.cons.injEq, Option.some.injEq, Sl.own.injEq, Own.lst.injEq, exists_eq', not_false_eq_true, forall_const, forall_eq, forall_eq_or_imp, decide_eq_true_eq, Bool.not_true, Bool.not_false, Bool.false_eq_true, ite_self])
local macro_rules | `(tactic| walk_at "len") => `(tactic| first | omega | (simp only [List.length_append, List.length_cons, List.length_nil, List.length_map, List.length_singleton, List.length_replicate, List.length_range, List.length_take, List.length_drop, List.length_reverse]; omega) | (simp; omega) | (simp; done))
def rd__law_factor_at (ks : List Nat) : SD :=
  (wRet ks (wIf (wBl (wChain (gInt fLe) (gInt fLt) (wC (.int 0)) (wVar 1) (wB gLen (wCons (wVar 0) wNil)))) (wOp gIx (wVar 0) (wVar 1)) (wC (.int 0))))
def sp__law_factor_at : DSp := fun args Q _ => ∃ (l : List Int) (i : Int), args = [.dat (.lst (l.map .int)), .dat (.int i)] ∧ Q (.dat (.int (facAt l i))) [.dat (.lst (l.map .int)), .dat (.int i)]
theorem pl__law_factor_at : PL 2 2 rd__law_factor_at sp__law_factor_at := fun args QD ED h => by
  obtain ⟨l, i, rfl, h⟩ := h
  refine ⟨rfl, ?_⟩
  unfold rd__law_factor_at
  walk_at "dl"
  by_cases h0 : 0 ≤ i
  · rw [if_pos h0]
    by_cases h1 : i < (l.length : Int)
    · rw [if_pos h1]
      obtain ⟨v, _, e, e2⟩ := facAt_in h0 h1
      rw [lk_eq e]
      rw [e2] at h
      exact h
    · rw [if_neg h1]
      rw [facAt_out (by omega)] at h
      exact h
  · rw [if_neg h0]
    rw [facAt_out (by omega)] at h
    exact h
theorem paN_nn {s t : List Int} (hs : ∀ i ∈ s, 0 ≤ i) (ht : ∀ i ∈ t, 0 ≤ i) (k : Int) : ∀ m, 0 ≤ paN s t k m
  | 0 => Int.le_refl _
  | m + 1 => by
    have h1 := paN_nn hs ht k m
    have h2 := Int.mul_nonneg (facAt_nn hs (m : Nat)) (facAt_nn ht (k - (m : Int)))
    show 0 ≤ paN s t k m + _
    omega
theorem paN_mono {s t : List Int} (hs : ∀ i ∈ s, 0 ≤ i) (ht : ∀ i ∈ t, 0 ≤ i) (k : Int) {m n : Nat} (h : m ≤ n) : paN s t k m ≤ paN s t k n := by
  induction n with
  | zero => rw [show m = 0 by omega]; exact Int.le_refl _
  | succ n ih =>
    rcases Nat.lt_or_ge m (n + 1) with h1 | h1
    · have h2 := Int.mul_nonneg (facAt_nn hs (n : Nat)) (facAt_nn ht (k - (n : Int)))
      have h3 := ih (by omega)
      show _ ≤ paN s t k n + _
      omega
    · rw [show m = n + 1 by omega]; exact Int.le_refl _
theorem paN_trim (s t : List Int) (k : Int) : ∀ m, paN (trimZ s) (trimZ t) k m = paN s t k m
  | 0 => rfl
  | m + 1 => by
    show paN (trimZ s) (trimZ t) k m + _ = paN s t k m + _
    rw [paN_trim s t k m, facAt_trim, facAt_trim]
def rd_into_product (ks : List Nat) (LC : Addr) (sp_pairs_ahead : DSp) (sp_factor_at : DSp) : SD :=
  (wSeq (wAsg ks 4 (wOp gAdd (wOp gIx (wVar 2) (wC (.int 0))) (wOp gIx (wVar 3) (wC (.int 0)))))
  (wSeq (wAsg ks 5 (wOp gAdd (wOp gAdd (wCall ks sp_pairs_ahead (wCons (wVar 0) (wCons (wVar 1) (wCons (wVar 4) (wCons (wOp gIx (wVar 2) (wC (.int 0))) wNil))))) (wOp gMul (wOp gIx (wVar 2) (wC (.int 1))) (wCall ks sp_factor_at (wCons (wFld LC "factors" (wVar 1)) (wCons (wOp gIx (wVar 3) (wC (.int 0))) wNil))))) (wOp gIx (wVar 3) (wC (.int 1)))))
  (wRet ks (wTup ks (wCons (wVar 4) (wCons (wVar 5) (wCons (wOp gAdd (wOp gIx (wVar 2) (wC (.int 2))) (wOp gIx (wVar 3) (wC (.int 2)))) wNil)))))))
def sp_into_product (LC : Addr) : DSp := fun args Q _ => ∃ (s t : List Int) (j d : Nat) (i m : Int) (A B : List D), args = [.dat (.ins LC (layF s)), .dat (.ins LC (layF t)), .dat (.tup [.int (j : Nat), .int i, .tup A]), .dat (.tup [.int (d : Nat), .int m, .tup B])] ∧ j ≤ 1000 ∧ LogOk s ∧ LogOk t ∧ i.natAbs.log2 < 400000 ∧ A.length ≤ 1000 ∧ B.length ≤ 1000 ∧
  Q (.dat (.tup [.int ((j : Int) + (d : Int)), .int (paN s t ((j : Int) + (d : Int)) j + i * facAt t (d : Nat) + m), .tup (A ++ B)])) [.dat (.ins LC (layF s)), .dat (.ins LC (layF t)), .dat (.tup [.int (j : Nat), .int i, .tup A]), .dat (.tup [.int (d : Nat), .int m, .tup B])]
theorem pl_into_product (LC : Addr) : PL 6 4 (fun ks => rd_into_product ks LC (sp_pairs_ahead LC) sp_factor_at) (sp_into_product LC) := fun args QD ED h => by
  obtain ⟨s, t, j, d, i, m, A, B, rfl, hj, ls, lt, li, hA, hB, h⟩ := h
  refine ⟨rfl, ?_⟩
  unfold rd_into_product
  walk_at "dlf"
  refine ⟨s, t, _, j, rfl, hj, ls, lt, ?_⟩
  walk_at "dlf"
  rw [lk_eq lay_f]
  walk_at "dlf"
  refine ⟨t, _, rfl, ?_⟩
  walk_at "dlf"
  refine ⟨by have := fac_log (by decide) lt (d : Nat); omega, by omega, ?_⟩
  try walk_at "dlf"
  exact h
/-- where a pair of a product stands -/
structure Spot (s t : List Int) (k : Int) (j : Nat) (i m n : Int) : Prop where
  i0 : 0 ≤ i
  i1 : i < facAt s (j : Nat)
  m0 : 0 ≤ m
  m1 : m < facAt t (k - (j : Int))
  at_ : n = paN s t k j + i * facAt t (k - (j : Int)) + m
def rd_from_product (ks : List Nat) (LC : Addr) (sp_factor_at : DSp) (sp_pairs_ahead : DSp) : SD :=
  (wSeq (wUnp ks (wVar 2) (hTup 3 (hCons (hName ks 3) (hCons (hName ks 4) (hCons (hName ks 5) hNil)))))
  (wSeq (wAsg ks 6 (wC (.int 0)))
  (wSeq (wWhile (wBl (wOp (gInt fGe) (wVar 4) (wCall ks sp_pairs_ahead (wCons (wVar 0) (wCons (wVar 1) (wCons (wVar 3) (wCons (wOp gAdd (wVar 6) (wC (.int 1))) wNil))))))) (wAug ks 6 gAddN (wC (.int 1))))
  (wSeq (wAug ks 4 gSubN (wCall ks sp_pairs_ahead (wCons (wVar 0) (wCons (wVar 1) (wCons (wVar 3) (wCons (wVar 6) wNil))))))
  (wSeq (wAsg ks 7 (wCall ks sp_factor_at (wCons (wFld LC "factors" (wVar 1)) (wCons (wOp (gInt fSub) (wVar 3) (wVar 6)) wNil))))
  (wRet ks (wTup ks (wCons (wTup ks (wCons (wVar 6) (wCons (wOp (gInt fDiv) (wVar 4) (wVar 7)) (wCons (wSl gSl (wVar 5) wNoP (wPart (wVar 6))) wNil)))) (wCons (wTup ks (wCons (wOp (gInt fSub) (wVar 3) (wVar 6)) (wCons (wOp (gInt fMod) (wVar 4) (wVar 7)) (wCons (wSl gSl (wVar 5) (wPart (wVar 6)) wNoP) wNil)))) wNil)))))))))
def sp_from_product (LC : Addr) : DSp := fun args Q _ => ∃ (s t : List Int) (k : Int) (j : Nat) (i m n : Int) (L : List D), args = [.dat (.ins LC (layF s)), .dat (.ins LC (layF t)), .dat (.tup [.int k, .int n, .tup L])] ∧ j ≤ 900 ∧ LogOk s ∧ LogOk t ∧ (∀ i ∈ s, 0 ≤ i) ∧ (∀ i ∈ t, 0 ≤ i ∧ i < 2 ^ 60) ∧ Spot s t k j i m n ∧ L.length ≤ 1000 ∧
  Q (.dat (.tup [.tup [.int (j : Nat), .int i, .tup (L.take j)], .tup [.int (k - (j : Int)), .int m, .tup (L.drop j)]])) [.dat (.ins LC (layF s)), .dat (.ins LC (layF t)), .dat (.tup [.int k, .int n, .tup L])]
abbrev fpT (LC : Addr) : TTD := (wBl (wOp (gInt fGe) (wVar 4) (wCall [] (sp_pairs_ahead LC) (wCons (wVar 0) (wCons (wVar 1) (wCons (wVar 3) (wCons (wOp gAdd (wVar 6) (wC (.int 1))) wNil)))))))
theorem fp_while {LC : Addr} {s t : List Int} {k n : Int} {j : Nat} {s2 s5 s7 : Sl} (hj : j ≤ 900) (ls : LogOk s) (lt : LogOk t) (h1 : ∀ m, m ≤ j → paN s t k m ≤ n) (h2 : n < paN s t k (j + 1)) {DD : EndsD}
    (hN : DD.nx [.dat (.ins LC (layF s)), .dat (.ins LC (layF t)), s2, .dat (.int k), .dat (.int n), s5, .dat (.int (j : Nat)), s7]) : ∀ (f g : Nat), g + f = j →
    whileN (fpT LC) (wAug [] 6 gAddN (wC (.int 1))) DD (f + 1) [.dat (.ins LC (layF s)), .dat (.ins LC (layF t)), s2, .dat (.int k), .dat (.int n), s5, .dat (.int (g : Nat)), s7]
  | 0, g, e => by
    rw [whileN_succ]
    walk_at "dlf"
    refine ⟨s, t, k, g + 1, rfl, by omega, ls, lt, ?_⟩
    walk_at "dlf"
    rw [if_neg (by rw [show g = j by omega]; omega), show g = j by omega]
    exact hN
  | f + 1, g, e => by
    rw [whileN_succ]
    walk_at "dlf"
    refine ⟨s, t, k, g + 1, rfl, by omega, ls, lt, ?_⟩
    walk_at "dlf"
    rw [if_pos (h1 (g + 1) (by omega))]
    try walk_at "dlf"
    exact fp_while hj ls lt h1 h2 hN f (g + 1) (by omega)
theorem pl_from_product (LC : Addr) : PL 8 3 (fun ks => rd_from_product ks LC sp_factor_at (sp_pairs_ahead LC)) (sp_from_product LC) := fun args QD ED h => by
  obtain ⟨s, t, k, j, i, m, n, L, rfl, hj, ls, lt, hs, ht, sp, hL, h⟩ := h
  refine ⟨rfl, ?_⟩
  unfold rd_from_product
  have ht0 : ∀ i ∈ t, 0 ≤ i := fun i hi => (ht i hi).1
  have i0 := sp.i0
  have m0 := sp.m0
  have m1 := sp.m1
  have wpos : 0 < facAt t (k - (j : Int)) := by omega
  have h1 : ∀ q, q ≤ j → paN s t k q ≤ n := fun q hq => by
    have a1 := paN_mono hs ht0 k hq
    have a2 := Int.mul_nonneg i0 (Int.le_of_lt wpos)
    have a3 := sp.at_
    omega
  have h2 : n < paN s t k (j + 1) := by
    show n < paN s t k j + facAt s (j : Nat) * facAt t (k - (j : Int))
    have a1 : (i + 1) * facAt t (k - (j : Int)) ≤ facAt s (j : Nat) * facAt t (k - (j : Int)) := Int.mul_le_mul_of_nonneg_right (by have := sp.i1; omega) (Int.le_of_lt wpos)
    have a3 := sp.at_
    rw [Int.add_mul, Int.one_mul] at a1
    omega
  have hd : n - paN s t k j = m + facAt t (k - (j : Int)) * i := by have := sp.at_; rw [Int.mul_comm]; omega
  obtain ⟨q1, q2⟩ := (Int.ediv_emod_unique wpos).mpr ⟨hd.symm, m0, m1⟩
  have wl : (facAt t (k - (j : Int))).natAbs.log2 < 9000 := by
    have := fac_log (m := 61) (by decide) (l := t) (fun i hi => by
      have h3 := ht i hi
      exact log2_of (n := 61) (Nat.lt_of_lt_of_le (by omega : i.natAbs < 2 ^ 60) (by decide)) (by decide)) (k - (j : Int))
    omega
  walk_at "dlf"
  refine ⟨j + 1, fp_while hj ls lt h1 h2 ?_ j 0 (by omega)⟩
  walk_at "dlf"
  refine ⟨s, t, k, j, rfl, by omega, ls, lt, ?_⟩
  walk_at "dlf"
  rw [lk_eq lay_f]
  walk_at "dlf"
  refine ⟨t, k - (j : Int), rfl, ?_⟩
  walk_at "dlf"
  rw [q1, q2, show cutD L none (some (j : Int)) = L.take j from cutD_to j, show cutD L (some (j : Int)) none = L.drop j from cutD_from j]
  first | exact ⟨⟨wpos, wl⟩, wpos, h⟩ | (refine ⟨⟨wpos, wl⟩, ?_⟩; exact h) | exact h

end DL

set_option Elab.async false
set_option maxRecDepth 100000
set_option maxHeartbeats 4000000
/-! S35c: the law. -/
namespace DL
open PySem PySem.Spec PyProof.Rows L2
local macro_rules | `(tactic| walk_at "dl") => `(tactic| simp (config := {decide := false, implicitDefEqProofs := false}) only [e_ixO, k_oi0, k_oi1, k_oi2, e_prop, k_pr1, k_pr2, e_binO, k_bo0, k_bo1, k_bo2, e_eqO, k_eo0, k_eo1, k_eo2, k_eo3, e_cnt, k_cn0, k_cn1, k_cn2, k_cn3, isLst_l, cntD_i, e_fld, k_fl1, k_fl2, k_fl3, insD_i, e_setF, k_sf1, k_sf2, q_sf, e_make, k_mk1, k_mk2, k_mk3, e_never, e_callRR, k_rr1, k_rr2, k_rr3, k_rr4, e_itEA, k_ea1, k_ea2, e_itT2, k_i1, k_i2, e_m1, k_m1, k_m1b, k_m2, k_m3, k_m4, e_itZ, k_z1, e_scLen, k_sc, k_scQ, compT_nil, compT_cons, k_t1, k_t2, k_t2b, k_t3, e_chain, k_ch, k_ch0, k_ch1, k_ch2, k_ch3, k_ch4, k_ch5, k_ch6, rev_l, rev_f, rev_t, clear_l, lista_s, max_2, min_2, inA_s, ix_s, mulA_si, seqE_nx, seqE_rt, seqE_bk, seqE_ct, loopE_nx, loopE_rt, loopE_bk, loopE_ct, e_seq, e_next, e_break, e_cont, e_retN, e_var, q_var_d, q_var_o, e_c, con_d, con_o, con_b, conS_d, conS_o, own_l, own_d, own_i, z_d, z_n, z_t, z_w, sl_d, sl_o, frz_d, frz_o, frz_b, q_frz_d, q_frz_o, frzs_nil, frzs_cons, k_fzs, k_fz, thin_d, thin_o, thin_b, k_th, thins_nil, thins_cons, k_ths, k_ts, setR_nil, setR_cons, k_e, e_op, k_op1, k_op2, k_op3, k_op4, e_un, k_un1, k_un2, e_nil, e_cons, k_co1, k_co2, conL_nil, conL_cons, k_cl, k_cl2, e_b, k_b1, k_b2, e_tup, k_tup1, k_tup2, e_lst, k_lst1, k_lst2, e_dct0, k_ret, e_call, k_ca1, k_ca2, k_retR, e_callR, k_cr1, k_cr2, k_cr3, e_tr, k_tr1, k_tr2, k_tr3, e_bl, k_bl, e_and, k_and, e_or, k_or, e_not, k_not, e_if, k_if, e_ifS, k_ifS, e_notV, k_nv1, k_nv2, e_andV, k_av1, k_av2, e_orV, k_ov1, k_ov2, bD_bl, e_sl, k_sl1, k_sl2, k_sl3, k_sl4, e_part, k_pt1, k_pt2, e_noP, e_dget, k_ge1, k_ge1b, k_ge2, k_ge3, k_ge4, dctD_d, keyD_i, keyD_s, e_mut, q_mu0, k_mu1, k_mu2, q_mu3, k_mu4, e_put, k_pu1, k_pu2, k_pu3, k_pu4, q_pu4, k_pu5, e_aug, q_au0, k_au1, k_au2, k_au3, e_asg, k_as1, k_as2, e_par, k_pa1, k_pa2, e_unp, k_up1, k_up2, e_hName, e_hNil, e_hCons, k_hc, e_hTup, e_hWt, e_drop, k_dr, e_ret, k_rt_d, k_rt_o, k_rt_b, q_out_o, q_out_d, forL_nil, forL_cons, k_fo2, e_for, k_fo1, k_wh, e_itS, k_it1, k_it2, k_it3, walk_l, walk_f, walk_t, e_itR1, k_r11, k_r12, e_itR2, k_r21, k_r22, e_itE, k_en1, k_en2, k_en3, list_l, list_f, e_lc, k_lc, k_lcQ, compL_nil, compL_cons, k_c1, k_c2, k_c3, k_c4, e_yes, wip_nil, wip_cons, unw_nil, unw_cons, g_int, f_add, f_sub, f_mul, f_div, f_mod, f_pow, f_lt, f_le, f_gt, f_ge, add_i, add_s, add_l, add_t, mul_i, mul_l, mul_t, neg_i, ix_l, ix_t, sl_l, sl_f, sl_t, len_l, len_f, len_t, len_s, abs_i, int_i, lof_l, lof_f, lof_t, tof_l, tof_f, tof_t, dof_t, app_l, ext_t, ext_l, tru_b, tru_i, tru_l, tru_t, tru_n, augN, subN, is_bl, is_non, ixN4_0, ixN4_1, ixN4_2, ixN4_3, lk_some, lk_ite, lk_map, lk_bind, ixOf, endsF_nx, endsF_dat, endsF_own, atI_0, atI_1, atI_2, atI_3, eqA_l0, eqA_tup0, eqA_int, eqA_non, bne_f, bne_t, sizeLine_eq,
  List.cons_append, List.nil_append, List.getElem?_cons_zero, List.getElem?_cons_succ, List.set_cons_zero, List.set_cons_succ, List.length_cons, List.length_nil, List.replicate, List.take_succ_cons, List.take_zero, List.not_mem_nil, List.mem_cons, List.map_cons, List.map_nil, if_false, if_true, Option.map_some, Option.bind_some, Option.getD_some, Nat.reduceAdd, Nat.reduceSub, Nat.reduceLeDiff, Nat.reduceEqDiff, Nat.succ_ne_zero, Nat.zero_ne_one, Nat.one_ne_zero, List.isEmpty_nil, List.isEmpty_cons, List.length_map, List.isEmpty_map, beq_iff_eq, Bool.not_eq_true, reduceCtorEq, or_false, or_true, false_or, true_or, and_true, true_and, List.cons.injEq, Option.some.injEq, Sl.own.injEq, Own.lst.injEq, exists_eq', not_false_eq_true, forall_const, forall_eq, forall_eq_or_imp, decide_eq_true_eq, Bool.not_true, Bool.not_false, Bool.false_eq_true, ite_self])
local macro_rules | `(tactic| walk_at "dlf") => `(tactic| simp (config := {decide := false, implicitDefEqProofs := false}) only [e_ixO, k_oi0, k_oi1, k_oi2, e_prop, k_pr1, k_pr2, e_binO, k_bo0, k_bo1, k_bo2, e_eqO, k_eo0, k_eo1, k_eo2, k_eo3, e_cnt, k_cn0, k_cn1, k_cn2, k_cn3, isLst_l, cntD_i, e_fld, k_fl1, k_fl2, k_fl3, insD_i, e_setF, k_sf1, k_sf2, q_sf, e_make, k_mk1, k_mk2, k_mk3, e_never, e_callRR, k_rr1, k_rr2, k_rr3, k_rr4, e_itEA, k_ea1, k_ea2, e_itT2, k_i1, k_i2, e_m1, k_m1, k_m1b, k_m2, k_m3, k_m4, e_itZ, k_z1, e_scLen, k_sc, k_scQ, compT_nil, compT_cons, k_t1, k_t2, k_t2b, k_t3, e_chain, k_ch, k_ch0, k_ch1, k_ch2, k_ch3, k_ch4, k_ch5, k_ch6, rev_l, rev_f, rev_t, clear_l, lista_s, max_2, min_2, inA_s, ix_s, mulA_si, seqE_nx, seqE_rt, seqE_bk, seqE_ct, loopE_nx, loopE_rt, loopE_bk, loopE_ct, e_seq, e_next, e_break, e_cont, e_retN, e_var, q_var_d, q_var_o, e_c, con_d, con_o, con_b, conS_d, conS_o, own_l, own_d, own_i, z_d, z_n, z_t, z_w, sl_d, sl_o, frz_d, frz_o, frz_b, q_frz_d, q_frz_o, frzs_nil, frzs_cons, k_fzs, k_fz, thin_d, thin_o, thin_b, k_th, thins_nil, thins_cons, k_ths, k_ts, setR_nil, setR_cons, k_e, e_op, k_op1, k_op2, k_op3, k_op4, e_un, k_un1, k_un2, e_nil, e_cons, k_co1, k_co2, conL_nil, conL_cons, k_cl, k_cl2, e_b, k_b1, k_b2, e_tup, k_tup1, k_tup2, e_lst, k_lst1, k_lst2, e_dct0, k_ret, e_call, k_ca1, k_ca2, k_retR, e_callR, k_cr1, k_cr2, k_cr3, e_tr, k_tr1, k_tr2, k_tr3, e_bl, k_bl, e_and, k_and, e_or, k_or, e_not, k_not, e_if, k_if, e_ifS, k_ifS, e_notV, k_nv1, k_nv2, e_andV, k_av1, k_av2, e_orV, k_ov1, k_ov2, bD_bl, e_sl, k_sl1, k_sl2, k_sl3, k_sl4, e_part, k_pt1, k_pt2, e_noP, e_dget, k_ge1, k_ge1b, k_ge2, k_ge3, k_ge4, dctD_d, keyD_i, keyD_s, e_mut, q_mu0, k_mu1, k_mu2, q_mu3, k_mu4, e_put, k_pu1, k_pu2, k_pu3, k_pu4, q_pu4, k_pu5, e_aug, q_au0, k_au1, k_au2, k_au3, e_asg, k_as1, k_as2, e_par, k_pa1, k_pa2, e_unp, k_up1, k_up2, e_hName, e_hNil, e_hCons, k_hc, e_hTup, e_hWt, e_drop, k_dr, e_ret, k_rt_d, k_rt_o, k_rt_b, q_out_o, q_out_d, forL_nil, k_fo2, e_for, k_fo1, k_wh, e_itS, k_it1, k_it2, k_it3, walk_l, walk_f, walk_t, e_itR1, k_r11, k_r12, e_itR2, k_r21, k_r22, e_itE, k_en1, k_en2, k_en3, list_l, list_f, e_lc, k_lc, k_lcQ, compL_nil, k_c1, k_c2, k_c3, k_c4, e_yes, wip_nil, wip_cons, unw_nil, unw_cons, g_int, f_add, f_sub, f_mul, f_div, f_mod, f_pow, f_lt, f_le, f_gt, f_ge, add_i, add_s, add_l, add_t, mul_i, mul_l, mul_t, neg_i, ix_l, ix_t, sl_l, sl_f, sl_t, len_l, len_f, len_t, len_s, abs_i, int_i, lof_l, lof_f, lof_t, tof_l, tof_f, tof_t, dof_t, app_l, ext_t, ext_l, tru_b, tru_i, tru_l, tru_t, tru_n, augN, subN, is_bl, is_non, ixN4_0, ixN4_1, ixN4_2, ixN4_3, lk_some, lk_ite, lk_map, lk_bind, ixOf, endsF_nx, endsF_dat, endsF_own, atI_0, atI_1, atI_2, atI_3, eqA_l0, eqA_tup0, eqA_int, eqA_non, bne_f, bne_t, sizeLine_eq,
  List.cons_append, List.nil_append, List.getElem?_cons_zero, List.getElem?_cons_succ, List.set_cons_zero, List.set_cons_succ, List.length_cons, List.length_nil, List.replicate, List.take_succ_cons, List.take_zero, List.not_mem_nil, List.mem_cons, List.map_cons, List.map_nil, if_false, if_true, Option.map_some, Option.bind_some, Option.getD_some, Nat.reduceAdd, Nat.reduceSub, Nat.reduceLeDiff, Nat.reduceEqDiff, Nat.succ_ne_zero, Nat.zero_ne_one, Nat.one_ne_zero, List.isEmpty_nil, List.isEmpty_cons, List.length_map, List.isEmpty_map, beq_iff_eq, Bool.not_eq_true, reduceCtorEq, or_false, or_true, false_or, true_or, and_true, true_and, List.cons.injEq, Option.some.injEq, Sl.own.injEq, Own.lst.injEq, exists_eq', not_false_eq_true, forall_const, forall_eq, forall_eq_or_imp, decide_eq_true_eq, Bool.not_true, Bool.not_false, Bool.false_eq_true, ite_self])
local macro_rules | `(tactic| walk_at "len") => `(tactic| first | omega | (simp only [List.length_append, List.length_cons, List.length_nil, List.length_map, List.length_singleton, List.length_replicate, List.length_range, List.length_take, List.length_drop, List.length_reverse]; omega) | (simp; omega) | (simp; done))
/-! ### data that equals itself -/
structure PyOk (d : D) (n : Nat) : Prop where
  ex : ∃ p, pyD d = some p ∧ p.canLay0 = true ∧ p.depth ≤ n
structure PyOks (l : List D) (n : Nat) : Prop where
  ex : ∃ ps, pyDs l = some ps ∧ PyData.canLayAll0 ps = true ∧ PyData.depthAll ps ≤ n
theorem PyOk.eq {d : D} {n : Nat} {neg : Bool} (h : PyOk d n) (hn : n ≤ 64) : gEqA neg d d = some (.d (.bl (!neg))) := by
  obtain ⟨p, h1, h2, h3⟩ := h.ex
  exact eqA_self h1 h2 (by omega)
theorem pyk_int {i : Int} : PyOk (.int i) 0 := ⟨_, rfl, rfl, Nat.le_refl _⟩
theorem pyk_str {x : Str} (h : PyData.strOk x = true) : PyOk (.str x) 0 := ⟨.str x, rfl, h, Nat.le_refl _⟩
theorem pyks_nil {n : Nat} : PyOks [] n := ⟨[], rfl, rfl, Nat.zero_le _⟩
theorem pyks_cons {d : D} {l : List D} {n : Nat} (h : PyOk d n) (t : PyOks l n) : PyOks (d :: l) n := by
  obtain ⟨p, a1, a2, a3⟩ := h.ex
  obtain ⟨ps, b1, b2, b3⟩ := t.ex
  refine ⟨p :: ps, by unfold pyDs; rw [a1, b1]; rfl, by unfold PyData.canLayAll0; rw [a2, b2]; rfl, ?_⟩
  show max p.depth (PyData.depthAll ps) ≤ n
  omega
theorem PyOk.mono {d : D} {n m : Nat} (h : PyOk d n) (e : n ≤ m) : PyOk d m := by
  obtain ⟨p, a1, a2, a3⟩ := h.ex
  exact ⟨p, a1, a2, by omega⟩
theorem pyk_tup {l : List D} {n : Nat} (h : PyOks l n) : PyOk (.tup l) (n + 1) := by
  obtain ⟨ps, b1, b2, b3⟩ := h.ex
  refine ⟨.tuple ps, by unfold pyD; rw [b1]; rfl, by unfold PyData.canLay0; exact b2, ?_⟩
  show PyData.depthAll ps + 1 ≤ _
  omega
theorem pyks_all {n : Nat} : ∀ {l : List D}, (∀ d ∈ l, PyOk d n) → PyOks l n
  | [], _ => pyks_nil
  | d :: l, h => pyks_cons (h d List.mem_cons_self) (pyks_all fun x hx => h x (List.mem_cons_of_mem _ hx))
theorem pyks_app {n : Nat} {a b : List D} (ha : PyOks a n) (hb : ∀ d ∈ b, PyOk d n) : True := True.intro
theorem strOk_app {x y : Str} (hx : PyData.strOk x = true) (hy : PyData.strOk y = true) : PyData.strOk (x ++ y) = true := by
  unfold PyData.strOk at *
  show (x.cps ++ y.cps).all _ = true
  rw [Array.all_append, hx, hy]; rfl
theorem mark_py {s : Str} (h : PyData.strOk s = true) (p : Nat) : PyOk (markD s p) 1 := pyk_tup (pyks_cons (pyk_str (strOk_app h (strOk_int _))) pyks_nil)
theorem marks_py {s : Str} (h : PyData.strOk s = true) (j : Nat) : ∀ d ∈ marksL s j, PyOk d 1 := fun d hd => by
  obtain ⟨p, _, rfl⟩ := List.mem_map.mp hd
  exact mark_py h p
theorem tup3_py {i j : Int} {L : List D} (h : ∀ d ∈ L, PyOk d 1) : PyOk (.tup [.int i, .int j, .tup L]) 3 :=
  pyk_tup (pyks_cons (pyk_int.mono (by omega)) (pyks_cons (pyk_int.mono (by omega)) (pyks_cons (pyk_tup (pyks_all h)) pyks_nil)))
theorem tup2_py {a b : D} {n : Nat} (h1 : PyOk a n) (h2 : PyOk b n) : PyOk (.tup [a, b]) (n + 1) := pyk_tup (pyks_cons h1 (pyks_cons h2 pyks_nil))
theorem mem_app {P : D → Prop} {a b : List D} (h1 : ∀ d ∈ a, P d) (h2 : ∀ d ∈ b, P d) : ∀ d ∈ a ++ b, P d := fun d hd => by
  rcases List.mem_append.mp hd with h | h
  · exact h1 d h
  · exact h2 d h
abbrev sA : Str := "a"
abbrev sB : Str := "b"
theorem okA : PyData.strOk sA = true := by decide +kernel
theorem okB : PyData.strOk sB = true := by decide +kernel
/-! ### sums -/
def rd__law_sum_right (ks : List Nat) (LC : Addr) (sp_from_sum : DSp) (sp_into_sum : DSp) (sp__law_factor_at : DSp) (sp__law_marks_of : DSp) (sp_Layout___add__ : DSp) (sp_Layout___getitem__ : DSp) : SD :=
  (wSeq (wAsg ks 4 (wBinO ks LC sp_Layout___add__ (wVar 2) (wVar 3)))
  (wSeq (wAsg ks 5 (wLst ks wNil))
  (wSeq (wFor (wItR1 (wCons (wB gMax (wCons (wB gLen (wCons (wVar 0) wNil)) (wCons (wB gLen (wCons (wVar 1) wNil)) wNil))) wNil)) (hName ks 6) (wSeq (wAsg ks 7 (wCall ks sp__law_marks_of (wCons (wVar 6) (wCons (wC (.str "a")) wNil))))
  (wSeq (wAsg ks 9 (wLc ks (wItR1 (wCons (wCall ks sp__law_factor_at (wCons (wVar 0) (wCons (wVar 6) wNil))) wNil)) (hName ks 8) wYes (wTup ks (wCons (wC (.int 0)) (wCons (wTup ks (wCons (wVar 6) (wCons (wVar 8) (wCons (wVar 7) wNil)))) wNil))) [8]))
  (wSeq (wDrop (wMut ks 9 gExtend (wCons (wLc ks (wItR1 (wCons (wCall ks sp__law_factor_at (wCons (wVar 1) (wCons (wVar 6) wNil))) wNil)) (hName ks 8) wYes (wTup ks (wCons (wC (.int 1)) (wCons (wTup ks (wCons (wVar 6) (wCons (wVar 8) (wCons (wVar 7) wNil)))) wNil))) [8]) wNil)))
  (wSeq (wIfS (wBl (wOp (gEqA true) (wIxO ks LC sp_Layout___getitem__ (wVar 4) (wVar 6)) (wB gLen (wCons (wVar 9) wNil)))) (wRet ks (wC (.bl false))) wNext)
  (wSeq (wFor (wItE ks (wCons (wVar 9) wNil)) (hTup 2 (hCons (hName ks 8) (hCons (hName ks 10) hNil))) (wSeq (wIfS (wBl (wOp (gEqA true) (wCall ks sp_into_sum (wCons (wVar 2) (wCons (wVar 3) (wCons (wOp gIx (wVar 10) (wC (.int 0))) (wCons (wOp gIx (wVar 10) (wC (.int 1))) wNil))))) (wTup ks (wCons (wVar 6) (wCons (wVar 8) (wCons (wVar 7) wNil)))))) (wRet ks (wC (.bl false))) wNext)
  (wIfS (wBl (wOp (gEqA true) (wCall ks sp_from_sum (wCons (wVar 2) (wCons (wVar 3) (wCons (wTup ks (wCons (wVar 6) (wCons (wVar 8) (wCons (wVar 7) wNil)))) wNil)))) (wVar 10))) (wRet ks (wC (.bl false))) wNext)))
  (wDrop (wMut ks 5 gAppend (wCons (wB gLen (wCons (wVar 9) wNil)) wNil)))))))))
  (wRet ks (wOp (gEqA false) (wB gSum (wCons (wVar 5) wNil)) (wOp gAdd (wB gSum (wCons (wVar 0) wNil)) (wB gSum (wCons (wVar 1) wNil))))))))
abbrev srB1 (LC : Addr) : SD := (wSeq (wIfS (wBl (wOp (gEqA true) (wCall [] (sp_into_sum LC) (wCons (wVar 2) (wCons (wVar 3) (wCons (wOp gIx (wVar 10) (wC (.int 0))) (wCons (wOp gIx (wVar 10) (wC (.int 1))) wNil))))) (wTup [] (wCons (wVar 6) (wCons (wVar 8) (wCons (wVar 7) wNil)))))) (wRet [] (wC (.bl false))) wNext) (wIfS (wBl (wOp (gEqA true) (wCall [] (sp_from_sum LC) (wCons (wVar 2) (wCons (wVar 3) (wCons (wTup [] (wCons (wVar 6) (wCons (wVar 8) (wCons (wVar 7) wNil)))) wNil)))) (wVar 10))) (wRet [] (wC (.bl false))) wNext))
def srR0_5 (LC : Addr) : SD := (wDrop (wMut [] 5 gAppend (wCons (wB gLen (wCons (wVar 9) wNil)) wNil)))
def srR0_4 (LC : Addr) : SD := (wSeq (wFor (wItE [] (wCons (wVar 9) wNil)) (hTup 2 (hCons (hName [] 8) (hCons (hName [] 10) hNil))) (srB1 LC)) (srR0_5 LC))
def srR0_3 (LC : Addr) : SD := (wSeq (wIfS (wBl (wOp (gEqA true) (wIxO [] LC (sp_Layout___getitem__ LC) (wVar 4) (wVar 6)) (wB gLen (wCons (wVar 9) wNil)))) (wRet [] (wC (.bl false))) wNext) (srR0_4 LC))
def srR0_2 (LC : Addr) : SD := (wSeq (wDrop (wMut [] 9 gExtend (wCons (wLc [] (wItR1 (wCons (wCall [] sp__law_factor_at (wCons (wVar 1) (wCons (wVar 6) wNil))) wNil)) (hName [] 8) wYes (wTup [] (wCons (wC (.int 1)) (wCons (wTup [] (wCons (wVar 6) (wCons (wVar 8) (wCons (wVar 7) wNil)))) wNil))) [8]) wNil))) (srR0_3 LC))
def srR0_1 (LC : Addr) : SD := (wSeq (wAsg [] 9 (wLc [] (wItR1 (wCons (wCall [] sp__law_factor_at (wCons (wVar 0) (wCons (wVar 6) wNil))) wNil)) (hName [] 8) wYes (wTup [] (wCons (wC (.int 0)) (wCons (wTup [] (wCons (wVar 6) (wCons (wVar 8) (wCons (wVar 7) wNil)))) wNil))) [8])) (srR0_2 LC))
abbrev srB0 (LC : Addr) : SD := (wSeq (wAsg [] 7 (wCall [] sp__law_marks_of (wCons (wVar 6) (wCons (wC (.str "a")) wNil)))) (srR0_1 LC))
def srR_3 (LC : Addr) : SD := (wRet [] (wOp (gEqA false) (wB gSum (wCons (wVar 5) wNil)) (wOp gAdd (wB gSum (wCons (wVar 0) wNil)) (wB gSum (wCons (wVar 1) wNil)))))
def srR_2 (LC : Addr) : SD := (wSeq (wFor (wItR1 (wCons (wB gMax (wCons (wB gLen (wCons (wVar 0) wNil)) (wCons (wB gLen (wCons (wVar 1) wNil)) wNil))) wNil)) (hName [] 6) (srB0 LC)) (srR_3 LC))
def srR_1 (LC : Addr) : SD := (wSeq (wAsg [] 5 (wLst [] wNil)) (srR_2 LC))
abbrev srB (LC : Addr) : SD := (wSeq (wAsg [] 4 (wBinO [] LC (sp_Layout___add__ LC) (wVar 2) (wVar 3))) (srR_1 LC))

/-- the n-th record of both at a degree -/
def dueE (k A : Nat) (n : Nat) : D := if n < A then .tup [.int 0, .tup [.int (k : Nat), .int (n : Nat), .tup (marksL sA k)]] else .tup [.int 1, .tup [.int (k : Nat), .int ((n - A : Nat) : Int), .tup (marksL sA k)]]
def dueL (k A B : Nat) : List D := (List.range (A + B)).map (dueE k A)
theorem dueL_app (k A B : Nat) : ((List.range A).map fun i : Nat => D.tup [.int 0, .tup [.int (k : Nat), .int (i : Nat), .tup (marksL sA k)]]) ++ ((List.range B).map fun i : Nat => D.tup [.int 1, .tup [.int (k : Nat), .int (i : Nat), .tup (marksL sA k)]]) = dueL k A B := by
  unfold dueL
  rw [List.range_add, List.map_append, List.map_map]
  congr 1
  · refine List.map_congr_left fun i hi => ?_
    unfold dueE
    rw [if_pos (List.mem_range.mp hi)]
  · refine List.map_congr_left fun i _ => ?_
    show _ = dueE k A (A + i)
    unfold dueE
    rw [if_neg (by omega), Nat.add_sub_cancel_left]
theorem sum_getZ (l : List Int) : ∀ m, l.length ≤ m → ((List.range m).map (getZ l)).sum = l.sum := by
  have base : ∀ l : List Int, ((List.range l.length).map (getZ l)).sum = l.sum := fun l => by
    congr 1
    refine List.ext_getElem? fun n => ?_
    rw [List.getElem?_map]
    by_cases h : n < l.length
    · rw [List.getElem?_range h, List.getElem?_eq_getElem h]
      show some ((l[n]?).getD 0) = _
      rw [List.getElem?_eq_getElem h]; rfl
    · rw [List.getElem?_eq_none (l := List.range l.length) (by rw [List.length_range]; omega), List.getElem?_eq_none (l := l) (by omega)]; rfl
  intro m hm
  obtain ⟨d, rfl⟩ : ∃ d, m = l.length + d := ⟨m - l.length, by omega⟩
  rw [List.range_add, List.map_append, List.sum_append, base, List.map_map]
  have : ((List.range d).map (getZ l ∘ fun x => l.length + x)).sum = 0 := by
    have : ∀ k, ((List.range k).map (getZ l ∘ fun x => l.length + x)).sum = 0 := fun k => by
      induction k with
      | zero => rfl
      | succ k ih =>
        rw [List.range_succ, List.map_append, List.sum_append, ih]
        simp [getZ_out (show l.length ≤ l.length + k by omega)]
    exact this d
  rw [this]; omega
/-- what is known of two layouts' factors -/
structure Two (a b : List Int) : Prop where
  l1 : a.length ≤ 5
  l2 : b.length ≤ 5
  r1 : ∀ i ∈ a, 0 ≤ i ∧ i ≤ 3
  r2 : ∀ i ∈ b, 0 ≤ i ∧ i ≤ 3
theorem Two.sw {a b : List Int} (h : Two a b) : Two b a := ⟨h.l2, h.l1, h.r2, h.r1⟩
section
variable {LC : Addr} {a b : List Int} {s0 s1 s7 s8 s10 : Sl} {DD : EndsD}
abbrev insT (LC : Addr) (t : List Int) : D := .ins LC (layF (trimZ t))
theorem sr_b1 {k A B : Nat} {s4 s5 s9 : Sl} (hA : facAt a (k : Nat) = (A : Nat)) (hN : ∀ s8 s10, (∀ o, s8 ≠ .own o) → DD.nx [s0, s1, .dat (insT LC a), .dat (insT LC b), s4, s5, .dat (.int (k : Nat)), .dat (.tup (marksL sA k)), s8, s9, s10]) :
    ∀ (m n : Nat) (s8 s10 : Sl), (∀ o, s8 ≠ .own o) → forL (hTup 2 (hCons (hName [] 8) (hCons (hName [] 10) hNil))) (srB1 LC) DD ((List.range' n m).map fun j => .wt [.int (j : Nat), dueE k A j]) [s0, s1, .dat (insT LC a), .dat (insT LC b), s4, s5, .dat (.int (k : Nat)), .dat (.tup (marksL sA k)), s8, s9, s10]
  | 0, n, s8, s10, h8 => hN s8 s10 h8
  | m + 1, n, s8, s10, h8 => by
    have ih := sr_b1 (B := B) hA hN m (n + 1)
    have hm := marks_py okA k
    have e1 : (gEqA true (.tup [.int (k : Nat), .int (n : Nat), .tup (marksL sA k)]) (.tup [.int (k : Nat), .int (n : Nat), .tup (marksL sA k)])) = some (.d (.bl false)) := (tup3_py hm).eq (by omega)
    have ef : facAt (trimZ a) (k : Nat) = (A : Nat) := by rw [facAt_trim]; exact hA
    rw [List.range'_succ, List.map_cons, forL_cons]
    unfold dueE
    by_cases h : n < A
    · have e2 : (gEqA true (.tup [.int 0, .tup [.int (k : Nat), .int (n : Nat), .tup (marksL sA k)]]) (.tup [.int 0, .tup [.int (k : Nat), .int (n : Nat), .tup (marksL sA k)]])) = some (.d (.bl false)) := (tup2_py (pyk_int.mono (by omega)) (tup3_py hm)).eq (by omega)
      rw [if_pos h]
      walk_at "dlf"
      refine ⟨trimZ a, trimZ b, 0, k, n, _, rfl, ?_⟩
      rw [if_neg (by decide)]
      try walk_at "dlf"
      rw [lk_eq e1]
      try walk_at "dlf"
      try rw [if_neg (by decide)]
      try walk_at "dlf"
      refine ⟨trimZ a, trimZ b, k, n, _, rfl, ?_⟩
      rw [if_pos (by rw [ef]; omega)]
      try walk_at "dlf"
      rw [lk_eq e2]
      try walk_at "dlf"
      try rw [if_neg (by decide)]
      try walk_at "dlf"
      exact ih _ _ fun o z => (by cases z)
    · have e2 : (gEqA true (.tup [.int 1, .tup [.int (k : Nat), .int ((n - A : Nat) : Int), .tup (marksL sA k)]]) (.tup [.int 1, .tup [.int (k : Nat), .int ((n - A : Nat) : Int), .tup (marksL sA k)]])) = some (.d (.bl false)) := (tup2_py (pyk_int.mono (by omega)) (tup3_py hm)).eq (by omega)
      rw [if_neg h]
      walk_at "dlf"
      refine ⟨trimZ a, trimZ b, 1, k, ((n - A : Nat) : Int), _, rfl, ?_⟩
      rw [if_pos rfl, ef, show ((n - A : Nat) : Int) + (A : Int) = (n : Int) by omega]
      try walk_at "dlf"
      rw [lk_eq e1]
      try walk_at "dlf"
      try rw [if_neg (by decide)]
      try walk_at "dlf"
      refine ⟨trimZ a, trimZ b, k, n, _, rfl, ?_⟩
      rw [if_neg (by rw [ef]; omega), ef, show (n : Int) - (A : Int) = ((n - A : Nat) : Int) by omega]
      try walk_at "dlf"
      rw [lk_eq e2]
      try walk_at "dlf"
      try rw [if_neg (by decide)]
      try walk_at "dlf"
      exact ih _ _ fun o z => (by cases z)
theorem facAt_addT (L M : List Int) (i : Int) : facAt (addL (trimZ L) (trimZ M)) i = facAt L i + facAt M i := by
  by_cases h : 0 ≤ i
  · obtain ⟨n, rfl⟩ := Int.eq_ofNat_of_zero_le h
    rw [facAt_nat, addL_at, ← facAt_nat, ← facAt_nat, facAt_trim, facAt_trim]
  · rw [facAt_out (by omega), facAt_out (by omega), facAt_out (by omega)]; rfl
theorem fac_nat3 {a : List Int} (h : ∀ i ∈ a, 0 ≤ i ∧ i ≤ 3) (k : Nat) : ∃ A : Nat, A ≤ 3 ∧ facAt a (k : Nat) = (A : Nat) := by
  have h1 := getZ_rng (by decide) h k
  exact ⟨(getZ a k).toNat, by omega, by rw [facAt_nat]; omega⟩
theorem sr_b0 {k : Nat} (ht : Two a b) (hk : k ≤ 10) {o4 s7 s9 : Sl} (h4 : o4 = .own (.ins LC (layF (trimZ (addL (trimZ a) (trimZ b))))) ∨ o4 = .dat (.ins LC (layF (trimZ (addL (trimZ a) (trimZ b)))))) {l5 : List D} (hl : l5.length ≤ 100)
    (hN : ∀ s7 s8 s9 s10, (∀ o, s8 ≠ .own o) → DD.nx [.dat (.lst (a.map .int)), .dat (.lst (b.map .int)), .dat (insT LC a), .dat (insT LC b), .dat (.ins LC (layF (trimZ (addL (trimZ a) (trimZ b))))), .own (.lst (l5 ++ [.int (getZ a k + getZ b k)])), .dat (.int (k : Nat)), s7, s8, s9, s10]) (h8 : ∀ o, s8 ≠ .own o) :
    srB0 LC DD [.dat (.lst (a.map .int)), .dat (.lst (b.map .int)), .dat (insT LC a), .dat (insT LC b), o4, .own (.lst l5), .dat (.int (k : Nat)), s7, s8, s9, s10] := by
  obtain ⟨A, hA, eA⟩ := fac_nat3 ht.r1 k
  obtain ⟨B, hB, eB⟩ := fac_nat3 ht.r2 k
  have rg : ∀ A : Nat, rangeD (A : Nat) = (List.range A).map fun n => .int (n : Nat) := fun A => by unfold rangeD; rw [Int.toNat_natCast]
  unfold srB0
  walk_at "dlf"
  refine ⟨k, sA, rfl, by omega, by decide, ?_⟩
  walk_at "dlf"
  unfold srR0_1
  walk_at "dlf"
  refine ⟨a, k, rfl, ?_⟩
  rw [eA]
  walk_at "dlf"
  rw [rg]
  refine ⟨by omega, by omega, fun o z => h8 o (by simpa using z), ?_⟩
  refine at_comp (P := fun _ => True) (g := fun i : Nat => .int (i : Nat)) (f := fun i : Nat => D.tup [.int 0, .tup [.int (k : Nat), .int (i : Nat), .tup (marksL sA k)]]) (fun i Q _ q => ?_) rfl (List.range A) [] (fun _ _ => True.intro) (by walk_at "len") ?_
  · walk_at "dlf"
    exact q
  rw [List.nil_append]
  walk_at "dlf"
  unfold srR0_2
  walk_at "dlf"
  refine ⟨b, k, rfl, ?_⟩
  rw [eB]
  walk_at "dlf"
  rw [rg]
  refine ⟨by omega, by omega, fun o z => h8 o (by simpa using z), ?_⟩
  refine at_comp (P := fun _ => True) (g := fun i : Nat => .int (i : Nat)) (f := fun i : Nat => D.tup [.int 1, .tup [.int (k : Nat), .int (i : Nat), .tup (marksL sA k)]]) (fun i Q _ q => ?_) rfl (List.range B) [] (fun _ _ => True.intro) (by walk_at "len") ?_
  · walk_at "dlf"
    exact q
  rw [List.nil_append]
  walk_at "dlf"
  rw [dueL_app]
  refine ⟨by walk_at "len", ?_⟩
  have dl : (dueL k A B).length = A + B := by unfold dueL; rw [List.length_map, List.length_range]
  have et : facAt (trimZ (addL (trimZ a) (trimZ b))) (k : Nat) = ((A + B : Nat) : Int) := by rw [facAt_trim, facAt_addT, eA, eB]; rfl
  unfold srR0_3
  rcases h4 with rfl | rfl
  all_goals
    walk_at "dlf"
    refine ⟨trimZ (addL (trimZ a) (trimZ b)), k, rfl, ?_⟩
    rw [et]
    walk_at "dlf"
    rw [dl]
    try rw [if_neg (by simp)]
    try walk_at "dlf"
    unfold srR0_4
    walk_at "dlf"
    rw [show dueL k A B = (List.range (A + B)).map (dueE k A) from rfl, enum0, List.range_eq_range']
    refine sr_b1 (B := B) eA (fun s8 s10 h8 => ?_) (A + B) 0 _ _ h8
    rw [seqE_nx]
    unfold srR0_5
    walk_at "dlf"
    rw [List.length_range']
    refine ⟨by omega, ?_⟩
    have := hN (.dat (.tup (marksL sA k))) s8 (.dat (.lst ((List.range' 0 (A + B)).map (dueE k A)))) s10 h8
    rw [show getZ a k + getZ b k = ((A + B : Nat) : Int) by rw [← facAt_nat, ← facAt_nat, eA, eB]; rfl] at this
    exact this
theorem sr_loop (ht : Two a b) (hN : ∀ (n : Nat) (o4 s6 s7 s8 s9 s10 : Sl), n = max a.length b.length → DD.nx [.dat (.lst (a.map .int)), .dat (.lst (b.map .int)), .dat (insT LC a), .dat (insT LC b), o4, .own (.lst (((List.range n).map fun k => getZ a k + getZ b k).map .int)), s6, s7, s8, s9, s10]) :
    ∀ (m n : Nat) (o4 s6 s7 s8 s9 s10 : Sl), n + m = max a.length b.length → (∀ o, s8 ≠ .own o) → (o4 = .own (.ins LC (layF (trimZ (addL (trimZ a) (trimZ b))))) ∨ o4 = .dat (.ins LC (layF (trimZ (addL (trimZ a) (trimZ b)))))) →
    forL (hName [] 6) (srB0 LC) DD ((List.range' n m).map fun j => .int (j : Nat)) [.dat (.lst (a.map .int)), .dat (.lst (b.map .int)), .dat (insT LC a), .dat (insT LC b), o4, .own (.lst (((List.range n).map fun k => getZ a k + getZ b k).map .int)), s6, s7, s8, s9, s10]
  | 0, n, o4, s6, s7, s8, s9, s10, e, h8, h4 => hN n o4 s6 s7 s8 s9 s10 (by omega)
  | m + 1, n, o4, s6, s7, s8, s9, s10, e, h8, h4 => by
    have l1 := ht.l1
    have l2 := ht.l2
    rw [List.range'_succ, List.map_cons, forL_cons, e_hName, if_neg (List.not_mem_nil), k_fo2]
    refine sr_b0 ht (by omega) h4 (by rw [List.length_map, List.length_map, List.length_range]; omega) (fun s7 s8 s9 s10 h8 => ?_) h8
    rw [loopE_nx]
    have := sr_loop ht hN m (n + 1) (.dat (.ins LC (layF (trimZ (addL (trimZ a) (trimZ b)))))) (.dat (.int (n : Nat))) s7 s8 s9 s10 (by omega) h8 (.inr rfl)
    rw [List.range_succ, List.map_append, List.map_append] at this
    exact this
end
def sp__law_sum_right (LC : Addr) : DSp := fun args Q _ => ∃ (a b : List Int), args = [.dat (.lst (a.map .int)), .dat (.lst (b.map .int)), .dat (insT LC a), .dat (insT LC b)] ∧ Two a b ∧ Q (.dat (.bl true)) [.dat (.lst (a.map .int)), .dat (.lst (b.map .int)), .dat (insT LC a), .dat (insT LC b)]
theorem sum_two (f g : Nat → Int) : ∀ m, ((List.range m).map fun k => f k + g k).sum = ((List.range m).map f).sum + ((List.range m).map g).sum
  | 0 => rfl
  | m + 1 => by
    rw [List.range_succ, List.map_append, List.map_append, List.map_append, List.sum_append, List.sum_append, List.sum_append, sum_two f g m]
    simp
    omega
theorem pl__law_sum_right (LC : Addr) : PL 11 4 (fun ks => rd__law_sum_right ks LC (sp_from_sum LC) (sp_into_sum LC) sp__law_factor_at sp__law_marks_of (sp_Layout___add__ LC) (sp_Layout___getitem__ LC)) (sp__law_sum_right LC) := fun args QD ED h => by
  obtain ⟨a, b, rfl, ht, h⟩ := h
  refine ⟨rfl, ?_⟩
  show srB LC _ _
  unfold srB
  have l1 := ht.l1
  have l2 := ht.l2
  have ta := trimZ_len a
  have tb := trimZ_len b
  walk_at "dlf"
  refine ⟨trimZ a, trimZ b, rfl, by omega, by omega, fun i hi => (ht.r1 i (trimZ_mem hi)).1, fun i hi => (ht.r2 i (trimZ_mem hi)).1, ?_⟩
  walk_at "dlf"
  unfold srR_1
  walk_at "dlf"
  unfold srR_2
  walk_at "dlf"
  rw [max_if a.length b.length, show rangeD ((max a.length b.length : Nat) : Int) = (List.range' 0 (max a.length b.length)).map fun n => .int (n : Nat) by unfold rangeD; rw [Int.toNat_natCast, List.range_eq_range']]
  refine ⟨by omega, by omega, sr_loop ht (fun n o4 s6 s7 s8 s9 s10 en => ?_) _ 0 _ _ _ _ _ _ (by omega) (fun o z => (by cases z)) (.inl rfl)⟩
  rw [seqE_nx]
  unfold srR_3
  walk_at "dlf"
  rw [lk_eq (sum_l _)]
  try walk_at "dlf"
  rw [lk_eq (sum_l _)]
  try walk_at "dlf"
  rw [lk_eq (sum_l _)]
  try walk_at "dlf"
  rw [sum_two, sum_getZ a n (by omega), sum_getZ b n (by omega)]
  try walk_at "dlf"
  first | exact h | (rw [beq_self_eq_true]; exact h)

end DL

set_option Elab.async false
set_option maxRecDepth 100000
set_option maxHeartbeats 4000000
/-! S35d: the law's own. -/
namespace DL
open PySem PySem.Spec PyProof.Rows L2
local macro_rules | `(tactic| walk_at "dl") => `(tactic| simp (config := {decide := false, implicitDefEqProofs := false}) only [e_ixO, k_oi0, k_oi1, k_oi2, e_prop, k_pr1, k_pr2, e_binO, k_bo0, k_bo1, k_bo2, e_eqO, k_eo0, k_eo1, k_eo2, k_eo3, e_cnt, k_cn0, k_cn1, k_cn2, k_cn3, isLst_l, cntD_i, e_fld, k_fl1, k_fl2, k_fl3, insD_i, e_setF, k_sf1, k_sf2, q_sf, e_make, k_mk1, k_mk2, k_mk3, e_never, e_callRR, k_rr1, k_rr2, k_rr3, k_rr4, e_itEA, k_ea1, k_ea2, e_itT2, k_i1, k_i2, e_m1, k_m1, k_m1b, k_m2, k_m3, k_m4, e_itZ, k_z1, e_scLen, k_sc, k_scQ, compT_nil, compT_cons, k_t1, k_t2, k_t2b, k_t3, e_chain, k_ch, k_ch0, k_ch1, k_ch2, k_ch3, k_ch4, k_ch5, k_ch6, rev_l, rev_f, rev_t, clear_l, lista_s, max_2, min_2, inA_s, ix_s, mulA_si, seqE_nx, seqE_rt, seqE_bk, seqE_ct, loopE_nx, loopE_rt, loopE_bk, loopE_ct, e_seq, e_next, e_break, e_cont, e_retN, e_var, q_var_d, q_var_o, e_c, con_d, con_o, con_b, conS_d, conS_o, own_l, own_d, own_i, z_d, z_n, z_t, z_w, sl_d, sl_o, frz_d, frz_o, frz_b, q_frz_d, q_frz_o, frzs_nil, frzs_cons, k_fzs, k_fz, thin_d, thin_o, thin_b, k_th, thins_nil, thins_cons, k_ths, k_ts, setR_nil, setR_cons, k_e, e_op, k_op1, k_op2, k_op3, k_op4, e_un, k_un1, k_un2, e_nil, e_cons, k_co1, k_co2, conL_nil, conL_cons, k_cl, k_cl2, e_b, k_b1, k_b2, e_tup, k_tup1, k_tup2, e_lst, k_lst1, k_lst2, e_dct0, k_ret, e_call, k_ca1, k_ca2, k_retR, e_callR, k_cr1, k_cr2, k_cr3, e_tr, k_tr1, k_tr2, k_tr3, e_bl, k_bl, e_and, k_and, e_or, k_or, e_not, k_not, e_if, k_if, e_ifS, k_ifS, e_notV, k_nv1, k_nv2, e_andV, k_av1, k_av2, e_orV, k_ov1, k_ov2, bD_bl, e_sl, k_sl1, k_sl2, k_sl3, k_sl4, e_part, k_pt1, k_pt2, e_noP, e_dget, k_ge1, k_ge1b, k_ge2, k_ge3, k_ge4, dctD_d, keyD_i, keyD_s, e_mut, q_mu0, k_mu1, k_mu2, q_mu3, k_mu4, e_put, k_pu1, k_pu2, k_pu3, k_pu4, q_pu4, k_pu5, e_aug, q_au0, k_au1, k_au2, k_au3, e_asg, k_as1, k_as2, e_par, k_pa1, k_pa2, e_unp, k_up1, k_up2, e_hName, e_hNil, e_hCons, k_hc, e_hTup, e_hWt, e_drop, k_dr, e_ret, k_rt_d, k_rt_o, k_rt_b, q_out_o, q_out_d, forL_nil, forL_cons, k_fo2, e_for, k_fo1, k_wh, e_itS, k_it1, k_it2, k_it3, walk_l, walk_f, walk_t, e_itR1, k_r11, k_r12, e_itR2, k_r21, k_r22, e_itE, k_en1, k_en2, k_en3, list_l, list_f, e_lc, k_lc, k_lcQ, compL_nil, compL_cons, k_c1, k_c2, k_c3, k_c4, e_yes, wip_nil, wip_cons, unw_nil, unw_cons, g_int, f_add, f_sub, f_mul, f_div, f_mod, f_pow, f_lt, f_le, f_gt, f_ge, add_i, add_s, add_l, add_t, mul_i, mul_l, mul_t, neg_i, ix_l, ix_t, sl_l, sl_f, sl_t, len_l, len_f, len_t, len_s, abs_i, int_i, lof_l, lof_f, lof_t, tof_l, tof_f, tof_t, dof_t, app_l, ext_t, ext_l, tru_b, tru_i, tru_l, tru_t, tru_n, augN, subN, is_bl, is_non, ixN4_0, ixN4_1, ixN4_2, ixN4_3, lk_some, lk_ite, lk_map, lk_bind, ixOf, endsF_nx, endsF_dat, endsF_own, atI_0, atI_1, atI_2, atI_3, eqA_l0, eqA_tup0, eqA_int, eqA_non, bne_f, bne_t, sizeLine_eq,
  List.cons_append, List.nil_append, List.getElem?_cons_zero, List.getElem?_cons_succ, List.set_cons_zero, List.set_cons_succ, List.length_cons, List.length_nil, List.replicate, List.take_succ_cons, List.take_zero, List.not_mem_nil, List.mem_cons, List.map_cons, List.map_nil, if_false, if_true, Option.map_some, Option.bind_some, Option.getD_some, Nat.reduceAdd, Nat.reduceSub, Nat.reduceLeDiff, Nat.reduceEqDiff, Nat.succ_ne_zero, Nat.zero_ne_one, Nat.one_ne_zero, List.isEmpty_nil, List.isEmpty_cons, List.length_map, List.isEmpty_map, beq_iff_eq, Bool.not_eq_true, reduceCtorEq, or_false, or_true, false_or, true_or, and_true, true_and, List.cons.injEq, Option.some.injEq, Sl.own.injEq, Own.lst.injEq, exists_eq', not_false_eq_true, forall_const, forall_eq, forall_eq_or_imp, decide_eq_true_eq, Bool.not_true, Bool.not_false, Bool.false_eq_true, ite_self])
local macro_rules | `(tactic| walk_at "dlf") => `(tactic| simp (config := {decide := false, implicitDefEqProofs := false}) only [e_ixO, k_oi0, k_oi1, k_oi2, e_prop, k_pr1, k_pr2, e_binO, k_bo0, k_bo1, k_bo2, e_eqO, k_eo0, k_eo1, k_eo2, k_eo3, e_cnt, k_cn0, k_cn1, k_cn2, k_cn3, isLst_l, cntD_i, e_fld, k_fl1, k_fl2, k_fl3, insD_i, e_setF, k_sf1, k_sf2, q_sf, e_make, k_mk1, k_mk2, k_mk3, e_never, e_callRR, k_rr1, k_rr2, k_rr3, k_rr4, e_itEA, k_ea1, k_ea2, e_itT2, k_i1, k_i2, e_m1, k_m1, k_m1b, k_m2, k_m3, k_m4, e_itZ, k_z1, e_scLen, k_sc, k_scQ, compT_nil, compT_cons, k_t1, k_t2, k_t2b, k_t3, e_chain, k_ch, k_ch0, k_ch1, k_ch2, k_ch3, k_ch4, k_ch5, k_ch6, rev_l, rev_f, rev_t, clear_l, lista_s, max_2, min_2, inA_s, ix_s, mulA_si, seqE_nx, seqE_rt, seqE_bk, seqE_ct, loopE_nx, loopE_rt, loopE_bk, loopE_ct, e_seq, e_next, e_break, e_cont, e_retN, e_var, q_var_d, q_var_o, e_c, con_d, con_o, con_b, conS_d, conS_o, own_l, own_d, own_i, z_d, z_n, z_t, z_w, sl_d, sl_o, frz_d, frz_o, frz_b, q_frz_d, q_frz_o, frzs_nil, frzs_cons, k_fzs, k_fz, thin_d, thin_o, thin_b, k_th, thins_nil, thins_cons, k_ths, k_ts, setR_nil, setR_cons, k_e, e_op, k_op1, k_op2, k_op3, k_op4, e_un, k_un1, k_un2, e_nil, e_cons, k_co1, k_co2, conL_nil, conL_cons, k_cl, k_cl2, e_b, k_b1, k_b2, e_tup, k_tup1, k_tup2, e_lst, k_lst1, k_lst2, e_dct0, k_ret, e_call, k_ca1, k_ca2, k_retR, e_callR, k_cr1, k_cr2, k_cr3, e_tr, k_tr1, k_tr2, k_tr3, e_bl, k_bl, e_and, k_and, e_or, k_or, e_not, k_not, e_if, k_if, e_ifS, k_ifS, e_notV, k_nv1, k_nv2, e_andV, k_av1, k_av2, e_orV, k_ov1, k_ov2, bD_bl, e_sl, k_sl1, k_sl2, k_sl3, k_sl4, e_part, k_pt1, k_pt2, e_noP, e_dget, k_ge1, k_ge1b, k_ge2, k_ge3, k_ge4, dctD_d, keyD_i, keyD_s, e_mut, q_mu0, k_mu1, k_mu2, q_mu3, k_mu4, e_put, k_pu1, k_pu2, k_pu3, k_pu4, q_pu4, k_pu5, e_aug, q_au0, k_au1, k_au2, k_au3, e_asg, k_as1, k_as2, e_par, k_pa1, k_pa2, e_unp, k_up1, k_up2, e_hName, e_hNil, e_hCons, k_hc, e_hTup, e_hWt, e_drop, k_dr, e_ret, k_rt_d, k_rt_o, k_rt_b, q_out_o, q_out_d, forL_nil, k_fo2, e_for, k_fo1, k_wh, e_itS, k_it1, k_it2, k_it3, walk_l, walk_f, walk_t, e_itR1, k_r11, k_r12, e_itR2, k_r21, k_r22, e_itE, k_en1, k_en2, k_en3, list_l, list_f, e_lc, k_lc, k_lcQ, compL_nil, k_c1, k_c2, k_c3, k_c4, e_yes, wip_nil, wip_cons, unw_nil, unw_cons, g_int, f_add, f_sub, f_mul, f_div, f_mod, f_pow, f_lt, f_le, f_gt, f_ge, add_i, add_s, add_l, add_t, mul_i, mul_l, mul_t, neg_i, ix_l, ix_t, sl_l, sl_f, sl_t, len_l, len_f, len_t, len_s, abs_i, int_i, lof_l, lof_f, lof_t, tof_l, tof_f, tof_t, dof_t, app_l, ext_t, ext_l, tru_b, tru_i, tru_l, tru_t, tru_n, augN, subN, is_bl, is_non, ixN4_0, ixN4_1, ixN4_2, ixN4_3, lk_some, lk_ite, lk_map, lk_bind, ixOf, endsF_nx, endsF_dat, endsF_own, atI_0, atI_1, atI_2, atI_3, eqA_l0, eqA_tup0, eqA_int, eqA_non, bne_f, bne_t, sizeLine_eq,
  List.cons_append, List.nil_append, List.getElem?_cons_zero, List.getElem?_cons_succ, List.set_cons_zero, List.set_cons_succ, List.length_cons, List.length_nil, List.replicate, List.take_succ_cons, List.take_zero, List.not_mem_nil, List.mem_cons, List.map_cons, List.map_nil, if_false, if_true, Option.map_some, Option.bind_some, Option.getD_some, Nat.reduceAdd, Nat.reduceSub, Nat.reduceLeDiff, Nat.reduceEqDiff, Nat.succ_ne_zero, Nat.zero_ne_one, Nat.one_ne_zero, List.isEmpty_nil, List.isEmpty_cons, List.length_map, List.isEmpty_map, beq_iff_eq, Bool.not_eq_true, reduceCtorEq, or_false, or_true, false_or, true_or, and_true, true_and, List.cons.injEq, Option.some.injEq, Sl.own.injEq, Own.lst.injEq, exists_eq', not_false_eq_true, forall_const, forall_eq, forall_eq_or_imp, decide_eq_true_eq, Bool.not_true, Bool.not_false, Bool.false_eq_true, ite_self])
local macro_rules | `(tactic| walk_at "len") => `(tactic| first | omega | (simp only [List.length_append, List.length_cons, List.length_nil, List.length_map, List.length_singleton, List.length_replicate, List.length_range, List.length_take, List.length_drop, List.length_reverse]; omega) | (simp; omega) | (simp; done))
/-! ### products -/
def rd__law_product_right (ks : List Nat) (LC : Addr) (sp_into_product : DSp) (sp_from_product : DSp) (sp__law_all : DSp) (sp_Layout___mul__ : DSp) (sp_Layout___getitem__ : DSp) : SD :=
  (wSeq (wAsg ks 4 (wBinO ks LC sp_Layout___mul__ (wVar 2) (wVar 3)))
  (wSeq (wFor (wItR1 (wCons (wOp gAdd (wB gLen (wCons (wVar 0) wNil)) (wB gLen (wCons (wVar 1) wNil))) wNil)) (hName ks 5) (wSeq (wAsg ks 6 (wLst ks wNil))
  (wSeq (wFor (wItS ks (wCall ks sp__law_all (wCons (wVar 0) (wCons (wC (.str "a")) wNil)))) (hName ks 7) (wFor (wItS ks (wLc ks (wItS ks (wCall ks sp__law_all (wCons (wVar 1) (wCons (wC (.str "b")) wNil)))) (hName ks 8) (wBl (wOp (gEqA false) (wOp gIx (wVar 8) (wC (.int 0))) (wOp (gInt fSub) (wVar 5) (wOp gIx (wVar 7) (wC (.int 0)))))) (wVar 8) [8])) (hName ks 9) (wDrop (wMut ks 6 gAppend (wCons (wTup ks (wCons (wVar 7) (wCons (wVar 9) wNil))) wNil)))))
  (wSeq (wIfS (wBl (wOp (gEqA true) (wIxO ks LC sp_Layout___getitem__ (wVar 4) (wVar 5)) (wB gLen (wCons (wVar 6) wNil)))) (wRet ks (wC (.bl false))) wNext)
  (wFor (wItE ks (wCons (wVar 6) wNil)) (hTup 2 (hCons (hName ks 10) (hCons (hName ks 8) hNil))) (wSeq (wAsg ks 11 (wTup ks (wCons (wVar 5) (wCons (wVar 10) (wCons (wOp gAdd (wOp gIx (wOp gIx (wVar 8) (wC (.int 0))) (wC (.int 2))) (wOp gIx (wOp gIx (wVar 8) (wC (.int 1))) (wC (.int 2)))) wNil)))))
  (wIfS (wOr (wBl (wOp (gEqA true) (wCall ks sp_into_product (wCons (wVar 2) (wCons (wVar 3) (wCons (wOp gIx (wVar 8) (wC (.int 0))) (wCons (wOp gIx (wVar 8) (wC (.int 1))) wNil))))) (wVar 11))) (wBl (wOp (gEqA true) (wCall ks sp_from_product (wCons (wVar 2) (wCons (wVar 3) (wCons (wVar 11) wNil)))) (wVar 8)))) (wRet ks (wC (.bl false))) wNext)))))))
  (wRet ks (wC (.bl true)))))
abbrev prB2 (LC : Addr) : SD := (wDrop (wMut [] 6 gAppend (wCons (wTup [] (wCons (wVar 7) (wCons (wVar 9) wNil))) wNil)))
abbrev prB1 (LC : Addr) : SD := (wFor (wItS [] (wLc [] (wItS [] (wCall [] sp__law_all (wCons (wVar 1) (wCons (wC (.str "b")) wNil)))) (hName [] 8) (wBl (wOp (gEqA false) (wOp gIx (wVar 8) (wC (.int 0))) (wOp (gInt fSub) (wVar 5) (wOp gIx (wVar 7) (wC (.int 0)))))) (wVar 8) [8])) (hName [] 9) (prB2 LC))
abbrev prB3 (LC : Addr) : SD := (wSeq (wAsg [] 11 (wTup [] (wCons (wVar 5) (wCons (wVar 10) (wCons (wOp gAdd (wOp gIx (wOp gIx (wVar 8) (wC (.int 0))) (wC (.int 2))) (wOp gIx (wOp gIx (wVar 8) (wC (.int 1))) (wC (.int 2)))) wNil))))) (wIfS (wOr (wBl (wOp (gEqA true) (wCall [] (sp_into_product LC) (wCons (wVar 2) (wCons (wVar 3) (wCons (wOp gIx (wVar 8) (wC (.int 0))) (wCons (wOp gIx (wVar 8) (wC (.int 1))) wNil))))) (wVar 11))) (wBl (wOp (gEqA true) (wCall [] (sp_from_product LC) (wCons (wVar 2) (wCons (wVar 3) (wCons (wVar 11) wNil)))) (wVar 8)))) (wRet [] (wC (.bl false))) wNext))
def prR0_3 (LC : Addr) : SD := (wFor (wItE [] (wCons (wVar 6) wNil)) (hTup 2 (hCons (hName [] 10) (hCons (hName [] 8) hNil))) (prB3 LC))
def prR0_2 (LC : Addr) : SD := (wSeq (wIfS (wBl (wOp (gEqA true) (wIxO [] LC (sp_Layout___getitem__ LC) (wVar 4) (wVar 5)) (wB gLen (wCons (wVar 6) wNil)))) (wRet [] (wC (.bl false))) wNext) (prR0_3 LC))
def prR0_1 (LC : Addr) : SD := (wSeq (wFor (wItS [] (wCall [] sp__law_all (wCons (wVar 0) (wCons (wC (.str "a")) wNil)))) (hName [] 7) (prB1 LC)) (prR0_2 LC))
abbrev prB0 (LC : Addr) : SD := (wSeq (wAsg [] 6 (wLst [] wNil)) (prR0_1 LC))
def prR_2 (LC : Addr) : SD := (wRet [] (wC (.bl true)))
def prR_1 (LC : Addr) : SD := (wSeq (wFor (wItR1 (wCons (wOp gAdd (wB gLen (wCons (wVar 0) wNil)) (wB gLen (wCons (wVar 1) wNil))) wNil)) (hName [] 5) (prB0 LC)) (prR_2 LC))
abbrev prB (LC : Addr) : SD := (wSeq (wAsg [] 4 (wBinO [] LC (sp_Layout___mul__ LC) (wVar 2) (wVar 3))) (prR_1 LC))

abbrev PP := (Nat × Nat) × (Nat × Nat)
def prodD (p : PP) : D := .tup [recS sA p.1, recS sB p.2]
def rightsP (b : List Int) (k j : Nat) : List (Nat × Nat) := (allP b).filter fun r => decide ((r.1 : Int) = (k : Int) - (j : Int))
theorem flat_one {α : Type} (f : Nat → List α) (g : Nat → Bool) (d : Nat) (hg : ∀ n, g n = decide (n = d)) : ∀ m, ((List.range m).flatMap fun n => if g n then f n else []) = if d < m then f d else []
  | 0 => by rw [if_neg (by omega)]; rfl
  | m + 1 => by
    rw [List.range_succ, List.flatMap_append, flat_one f g d hg m, List.flatMap_cons, List.flatMap_nil, List.append_nil, hg]
    by_cases h : m = d
    · subst h
      rw [if_neg (c := m < m) (by omega), if_pos (c := m < m + 1) (by omega), if_pos (c := decide (m = m) = true) (decide_eq_true rfl)]; rfl
    · rw [if_neg (c := decide (m = d) = true) (by simpa using h), List.append_nil]
      by_cases h2 : d < m
      · rw [if_pos (c := d < m) h2, if_pos (c := d < m + 1) (by omega)]
      · rw [if_neg (c := d < m) h2, if_neg (c := d < m + 1) (by omega)]
theorem flat_none {α : Type} (f : Nat → List α) (g : Nat → Bool) (hg : ∀ n, g n = false) : ∀ m, ((List.range m).flatMap fun n => if g n then f n else []) = []
  | 0 => rfl
  | m + 1 => by
    rw [List.range_succ, List.flatMap_append, flat_none f g hg m, List.flatMap_cons, List.flatMap_nil, hg]; rfl
theorem filt_const {α β : Type} (f : α → β) (p : β → Bool) (c : Bool) (h : ∀ x, p (f x) = c) (l : List α) : (l.map f).filter p = if c then l.map f else [] := by
  cases c with
  | true => rw [if_pos rfl]; exact List.filter_eq_self.mpr fun y hy => by obtain ⟨x, _, rfl⟩ := List.mem_map.mp hy; exact h x
  | false => rw [if_neg (by decide)]; exact List.filter_eq_nil_iff.mpr fun y hy => by obtain ⟨x, _, rfl⟩ := List.mem_map.mp hy; rw [h x]; decide
theorem rightsP_eq (b : List Int) (k j : Nat) : rightsP b k j = (List.range (facAt b ((k : Int) - (j : Int))).toNat).map fun m => (k - j, m) := by
  unfold rightsP allP
  rw [List.filter_flatMap]
  have e : (fun d : Nat => ((List.range (getZ b d).toNat).map fun i => (d, i)).filter fun r : Nat × Nat => decide ((r.1 : Int) = (k : Int) - (j : Int))) = fun d : Nat => if decide ((d : Int) = (k : Int) - (j : Int)) then (List.range (getZ b d).toNat).map fun i => (d, i) else [] :=
    funext fun d => filt_const (fun i : Nat => (d, i)) (fun r : Nat × Nat => decide ((r.1 : Int) = (k : Int) - (j : Int))) (decide ((d : Int) = (k : Int) - (j : Int))) (fun _ => rfl) _
  show (List.range b.length).flatMap (fun d => ((List.range (getZ b d).toNat).map fun i => (d, i)).filter fun r : Nat × Nat => decide ((r.1 : Int) = (k : Int) - (j : Int))) = _
  rw [e]
  by_cases h : j ≤ k
  · have hg : ∀ n : Nat, decide ((n : Int) = (k : Int) - (j : Int)) = decide (n = k - j) := fun n => by
      by_cases h2 : n = k - j
      · rw [decide_eq_true h2]; exact decide_eq_true (by omega)
      · rw [decide_eq_false h2]; exact decide_eq_false (by omega)
    rw [flat_one (fun d => (List.range (getZ b d).toNat).map fun i => (d, i)) (fun d => decide ((d : Int) = (k : Int) - (j : Int))) (k - j) hg]
    rw [show (k : Int) - (j : Int) = ((k - j : Nat) : Int) by omega, facAt_nat]
    by_cases h2 : k - j < b.length
    · rw [if_pos h2]
    · rw [if_neg h2, getZ_out (by omega)]; rfl
  · rw [flat_none _ _ (fun n => decide_eq_false (by omega)), facAt_out (by omega)]; rfl
structure GoodP (a b : List Int) (k : Nat) (p : PP) (n : Nat) : Prop where
  sp : Spot a b (k : Nat) p.1.1 (p.1.2 : Nat) (p.2.2 : Nat) (n : Nat)
  dd : (p.2.1 : Int) = (k : Int) - (p.1.1 : Int)
def Along (a b : List Int) (k n : Nat) (l : List PP) : Prop := ∀ (x : Nat) (p : PP), l[x]? = some p → GoodP a b k p (n + x)
theorem along_app {a b : List Int} {k n : Nat} {l m : List PP} (h1 : Along a b k n l) (h2 : Along a b k (n + l.length) m) : Along a b k n (l ++ m) := fun x p h => by
  by_cases hx : x < l.length
  · rw [List.getElem?_append_left hx] at h
    exact h1 x p h
  · rw [List.getElem?_append_right (by omega)] at h
    have := h2 _ p h
    rw [show n + l.length + (x - l.length) = n + x by omega] at this
    exact this
theorem along_nil {a b : List Int} {k n : Nat} : Along a b k n [] := fun x p h => by simp at h
theorem along_i {a b : List Int} {k j i n : Nat} (hi : (i : Int) < getZ a j) (hn : (n : Int) = paN a b k j + (i : Int) * facAt b ((k : Int) - (j : Int))) : Along a b k n ((List.range (facAt b ((k : Int) - (j : Int))).toNat).map fun m => ((j, i), (k - j, m))) := fun x p h => by
  rw [List.getElem?_map] at h
  by_cases hx : x < (facAt b ((k : Int) - (j : Int))).toNat
  · rw [List.getElem?_range hx] at h
    obtain rfl := Option.some.inj h
    have hp := facAt_pos (l := b) (i := (k : Int) - (j : Int)) (by omega)
    refine ⟨⟨?_, ?_, ?_, ?_, ?_⟩, ?_⟩
    · exact Int.natCast_nonneg _
    · show (i : Int) < facAt a (j : Nat)
      rw [facAt_nat]; exact hi
    · exact Int.natCast_nonneg _
    · show (x : Int) < facAt b ((k : Int) - (j : Int))
      omega
    · show ((n + x : Nat) : Int) = paN a b k j + (i : Int) * facAt b ((k : Int) - (j : Int)) + (x : Int)
      omega
    · show ((k - j : Nat) : Int) = (k : Int) - (j : Int)
      omega
  · rw [List.getElem?_eq_none (l := List.range _) (by rw [List.length_range]; omega)] at h
    cases h
theorem along_j {a b : List Int} {k j n : Nat} (hb : ∀ i ∈ b, 0 ≤ i) (hn : (n : Int) = paN a b k j) : ∀ A : Nat, (A : Int) ≤ getZ a j →
    Along a b k n ((List.range A).flatMap fun i => (List.range (facAt b ((k : Int) - (j : Int))).toNat).map fun m => ((j, i), (k - j, m))) ∧
    (((List.range A).flatMap fun i => (List.range (facAt b ((k : Int) - (j : Int))).toNat).map fun m => ((j, i), (k - j, m))).length : Int) = (A : Int) * facAt b ((k : Int) - (j : Int))
  | 0, _ => ⟨along_nil, by simp⟩
  | A + 1, h => by
    obtain ⟨h1, h2⟩ := along_j hb hn A (by omega)
    have nn := facAt_nn hb ((k : Int) - (j : Int))
    rw [List.range_succ, List.flatMap_append, List.flatMap_cons, List.flatMap_nil, List.append_nil]
    refine ⟨along_app h1 (along_i (by omega) (by rw [Int.natCast_add, h2, hn])), ?_⟩
    rw [List.length_append, Int.natCast_add, h2, List.length_map, List.length_range, Int.natCast_add, Int.add_mul]
    omega
def ptL (a b : List Int) (k : Nat) : List PP := (allP a).flatMap fun q => (rightsP b k q.1).map fun r => (q, r)
theorem ptL_eq (a b : List Int) (k : Nat) : ptL a b k = (List.range a.length).flatMap fun j => (List.range (getZ a j).toNat).flatMap fun i => (List.range (facAt b ((k : Int) - (j : Int))).toNat).map fun m => ((j, i), (k - j, m)) := by
  unfold ptL allP
  rw [List.flatMap_assoc]
  congr 1
  funext j
  rw [List.flatMap_map]
  congr 1
  funext i
  rw [rightsP_eq, List.map_map]
  rfl
theorem along_all {a b : List Int} {k : Nat} (ha : ∀ i ∈ a, 0 ≤ i) (hb : ∀ i ∈ b, 0 ≤ i) : ∀ J : Nat,
    Along a b k 0 ((List.range J).flatMap fun j => (List.range (getZ a j).toNat).flatMap fun i => (List.range (facAt b ((k : Int) - (j : Int))).toNat).map fun m => ((j, i), (k - j, m))) ∧
    (((List.range J).flatMap fun j => (List.range (getZ a j).toNat).flatMap fun i => (List.range (facAt b ((k : Int) - (j : Int))).toNat).map fun m => ((j, i), (k - j, m))).length : Int) = paN a b k J
  | 0 => ⟨along_nil, rfl⟩
  | J + 1 => by
    obtain ⟨h1, h2⟩ := along_all (k := k) ha hb J
    have nn := getZ_nn ha J
    obtain ⟨h3, h4⟩ := along_j (a := a) (k := k) (j := J) hb h2 (getZ a J).toNat (by omega)
    rw [List.range_succ, List.flatMap_append, List.flatMap_cons, List.flatMap_nil, List.append_nil]
    refine ⟨along_app h1 (by rw [Nat.zero_add]; exact h3), ?_⟩
    rw [List.length_append, Int.natCast_add, h2, h4]
    show _ = paN a b k J + facAt a (J : Nat) * _
    rw [facAt_nat, Int.toNat_of_nonneg nn]
theorem paN_convN (a b : List Int) (k : Nat) : ∀ m, paN a b k m = convN a b k m
  | 0 => rfl
  | m + 1 => by
    show paN a b k m + _ = convN a b k m + _
    rw [paN_convN a b k m, facAt_nat]
theorem ptL_along {a b : List Int} {k : Nat} (ha : ∀ i ∈ a, 0 ≤ i) (hb : ∀ i ∈ b, 0 ≤ i) : Along a b k 0 (ptL a b k) := by rw [ptL_eq]; exact (along_all ha hb _).1
theorem ptL_len {a b : List Int} {k : Nat} (ha : ∀ i ∈ a, 0 ≤ i) (hb : ∀ i ∈ b, 0 ≤ i) : ((ptL a b k).length : Int) = conv a b k := by
  rw [ptL_eq, (along_all ha hb _).2, paN_convN, conv_far (.inl (Nat.le_refl _))]
theorem facAt_leN {l : List Int} {m : Int} (h0 : 0 ≤ m) (h : ∀ i ∈ l, i ≤ m) (i : Int) : facAt l i ≤ m := by
  unfold facAt
  split
  · cases e : l[i.toNat]? with
    | none => exact h0
    | some v => exact h v (List.mem_of_getElem? e)
  · exact h0
theorem rightsP_len {b : List Int} {m : Nat} (hb : ∀ i ∈ b, i ≤ (m : Nat)) (k j : Nat) : (rightsP b k j).length ≤ m := by
  rw [rightsP_eq, List.length_map, List.length_range]
  have := facAt_leN (Int.natCast_nonneg m) hb ((k : Int) - (j : Int))
  omega
theorem flat_len {α β : Type} {f : α → List β} {m : Nat} : ∀ (l : List α), (∀ x ∈ l, (f x).length ≤ m) → (l.flatMap f).length ≤ m * l.length
  | [], _ => Nat.le_refl _
  | x :: l, h => by
    rw [List.flatMap_cons, List.length_append, List.length_cons, Nat.mul_succ]
    have h1 := h x List.mem_cons_self
    have h2 := flat_len l fun y hy => h y (List.mem_cons_of_mem _ hy)
    omega
theorem allP_len {a : List Int} {m : Nat} (ha : ∀ i ∈ a, 0 ≤ i ∧ i ≤ (m : Nat)) : (allP a).length ≤ m * a.length := by
  have := flat_len (f := fun j => (List.range (getZ a j).toNat).map fun i => (j, i)) (m := m) (List.range a.length) fun j _ => by
    rw [List.length_map, List.length_range]
    have := getZ_rng (Int.natCast_nonneg m) ha j
    omega
  rw [List.length_range] at this
  exact this
section
variable {LC : Addr} {a b : List Int} {s0 s1 s2 s3 s4 : Sl} {DD : EndsD}
theorem pr_r {k : Nat} {q : Nat × Nat} {s8 s10 s11 : Sl} : ∀ (rs : List (Nat × Nat)) (acc : List D) (s9 : Sl), acc.length + rs.length ≤ 90000 →
    (∀ s9, DD.nx [s0, s1, s2, s3, s4, .dat (.int (k : Nat)), .own (.lst (acc ++ rs.map fun r => prodD (q, r))), .dat (recS sA q), s8, s9, s10, s11]) →
    forL (hName [] 9) (prB2 LC) DD (rs.map (recS sB)) [s0, s1, s2, s3, s4, .dat (.int (k : Nat)), .own (.lst acc), .dat (recS sA q), s8, s9, s10, s11]
  | [], acc, s9, _, h => by
    have := h s9
    rw [List.map_nil, List.append_nil] at this
    exact this
  | r :: rs, acc, s9, hl, h => by
    rw [List.length_cons] at hl
    rw [List.map_cons, forL_cons]
    walk_at "dlf"
    refine ⟨by omega, ?_⟩
    refine pr_r rs _ _ (by walk_at "len") fun s9 => ?_
    have := h s9
    rw [List.map_cons] at this
    rw [List.append_assoc]
    exact this
theorem pr_l {k : Nat} (hb : ∀ i ∈ b, 0 ≤ i ∧ i ≤ 3) (lb : b.length ≤ 5) {s8 s10 s11 : Sl} (h8 : ∀ o, s8 ≠ .own o) : ∀ (qs : List (Nat × Nat)) (acc : List D) (s7 s9 : Sl), acc.length + 3 * qs.length ≤ 80000 →
    (∀ s7 s9, DD.nx [s0, .dat (.lst (b.map .int)), s2, s3, s4, .dat (.int (k : Nat)), .own (.lst (acc ++ (qs.flatMap fun q => (rightsP b k q.1).map fun r => (q, r)).map prodD)), s7, s8, s9, s10, s11]) →
    forL (hName [] 7) (prB1 LC) DD (qs.map (recS sA)) [s0, .dat (.lst (b.map .int)), s2, s3, s4, .dat (.int (k : Nat)), .own (.lst acc), s7, s8, s9, s10, s11]
  | [], acc, s7, s9, _, h => by
    have := h s7 s9
    rw [List.flatMap_nil, List.map_nil, List.append_nil] at this
    exact this
  | q :: qs, acc, s7, s9, hl, h => by
    have la := allP_len (m := 3) hb
    have rl := rightsP_len (m := 3) (fun i hi => (hb i hi).2) k q.1
    rw [List.length_cons] at hl
    rw [List.map_cons, forL_cons]
    walk_at "dlf"
    refine ⟨b, sB, rfl, by omega, fun i hi => ⟨(hb i hi).1, by have := (hb i hi).2; omega⟩, by decide, ?_⟩
    walk_at "dlf"
    refine ⟨fun o z => h8 o (by simpa using z), ?_⟩
    refine at_filt0 (P := fun _ => True) (g := recS sB) (f := recS sB) (pr := fun r : Nat × Nat => decide ((r.1 : Int) = (k : Int) - (q.1 : Int))) (fun r Q _ q => ?_) (fun r Q _ q => ?_) rfl (by decide) (allP b) [] (fun _ _ => True.intro) (by walk_at "len") ?_
    · unfold recS
      walk_at "dlf"
      exact q
    · walk_at "dlf"
      exact q
    rw [List.nil_append]
    walk_at "dlf"
    refine pr_r (rightsP b k q.1) acc _ (by omega) fun s9 => ?_
    refine pr_l hb lb h8 qs _ _ _ (by walk_at "len") fun s7 s9 => ?_
    have := h s7 s9
    rw [List.flatMap_cons, List.map_append, List.map_map] at this
    rw [List.append_assoc]
    exact this
theorem marksL_len (s : Str) (j : Nat) : (marksL s j).length = j := by unfold marksL; rw [List.length_map, List.length_range]
theorem log3 {l : List Int} (h : ∀ i ∈ l, 0 ≤ i ∧ i ≤ 3) : LogOk (trimZ l) := fun i hi => by
  have h1 := h i (trimZ_mem hi)
  have := log_100 (i := i) (by omega)
  omega
theorem Spot.trim {k i m n : Int} {j : Nat} (h : Spot a b k j i m n) : Spot (trimZ a) (trimZ b) k j i m n :=
  ⟨h.i0, by rw [facAt_trim]; exact h.i1, h.m0, by rw [facAt_trim]; exact h.m1, by rw [facAt_trim, paN_trim]; exact h.at_⟩
theorem pr_e {k : Nat} {s6 s7 s9 : Sl} (ht : Two a b) (hk : k ≤ 10) (hN : ∀ s8 s10 s11, (∀ o, s8 ≠ .own o) → DD.nx [s0, s1, .dat (insT LC a), .dat (insT LC b), s4, .dat (.int (k : Nat)), s6, s7, s8, s9, s10, s11]) :
    ∀ (l : List PP) (n : Nat) (s8 s10 s11 : Sl), (∀ o, s8 ≠ .own o) → Along a b k n l → n + l.length ≤ 1000 →
    forL (hTup 2 (hCons (hName [] 10) (hCons (hName [] 8) hNil))) (prB3 LC) DD (enumD n (l.map prodD)) [s0, s1, .dat (insT LC a), .dat (insT LC b), s4, .dat (.int (k : Nat)), s6, s7, s8, s9, s10, s11]
  | [], n, s8, s10, s11, h8, _, _ => hN s8 s10 s11 h8
  | ((j, i), (d, m)) :: l, n, s8, s10, s11, h8, ha, hn => by
    have g : GoodP a b k ((j, i), (d, m)) n := ha 0 _ rfl
    have hl : Along a b k (n + 1) l := fun x p e => by
      have := ha (x + 1) p e
      rw [show n + (x + 1) = n + 1 + x by omega] at this
      exact this
    have ih := pr_e (s6 := s6) (s7 := s7) (s9 := s9) ht hk hN l (n + 1)
    have sp : Spot (trimZ a) (trimZ b) (k : Nat) j (i : Nat) (m : Nat) (n : Nat) := g.sp.trim
    have dd : (d : Int) = (k : Int) - (j : Int) := g.dd
    have hj : j < a.length := by
      have := (facAt_pos (l := a) (i := (j : Nat)) (by have := g.sp.i0; have := g.sp.i1; exact Int.lt_of_le_of_lt ‹_› ‹_›)).2
      omega
    have la := ht.l1
    have lm1 := marksL_len sA j
    have lm2 := marksL_len sB d
    have li : (i : Int) < 4 := by
      have h1 := g.sp.i1
      have h2 := facAt_leN (m := 3) (by decide) (fun i hi => (ht.r1 i hi).2) (j : Nat)
      have h3 : (i : Int) < facAt a (j : Nat) := h1
      omega
    have lg := log_100 (i := (i : Nat)) (by omega)
    have e1 : D.tup [.int ((j : Int) + (d : Int)), .int (paN (trimZ a) (trimZ b) ((j : Int) + (d : Int)) j + (i : Int) * facAt (trimZ b) (d : Nat) + (m : Int)), .tup (marksL sA j ++ marksL sB d)] = .tup [.int (k : Nat), .int (n : Nat), .tup (marksL sA j ++ marksL sB d)] := by
      rw [show (j : Int) + (d : Int) = (k : Int) by omega, show paN (trimZ a) (trimZ b) (k : Int) j + (i : Int) * facAt (trimZ b) (d : Nat) + (m : Int) = (n : Int) by rw [dd]; exact sp.at_.symm]
    have e2 : D.tup [.tup [.int (j : Nat), .int (i : Nat), .tup ((marksL sA j ++ marksL sB d).take j)], .tup [.int ((k : Int) - (j : Int)), .int (m : Nat), .tup ((marksL sA j ++ marksL sB d).drop j)]] = .tup [.tup [.int (j : Nat), .int (i : Nat), .tup (marksL sA j)], .tup [.int (d : Nat), .int (m : Nat), .tup (marksL sB d)]] := by
      rw [List.take_left' lm1, List.drop_left' lm1, ← dd]
    have q1 : gEqA true (.tup [.int (k : Nat), .int (n : Nat), .tup (marksL sA j ++ marksL sB d)]) (.tup [.int (k : Nat), .int (n : Nat), .tup (marksL sA j ++ marksL sB d)]) = some (.d (.bl false)) := (tup3_py (mem_app (marks_py okA j) (marks_py okB d))).eq (by omega)
    have q2 : gEqA true (.tup [.tup [.int (j : Nat), .int (i : Nat), .tup (marksL sA j)], .tup [.int (d : Nat), .int (m : Nat), .tup (marksL sB d)]]) (.tup [.tup [.int (j : Nat), .int (i : Nat), .tup (marksL sA j)], .tup [.int (d : Nat), .int (m : Nat), .tup (marksL sB d)]]) = some (.d (.bl false)) := (tup2_py (tup3_py (marks_py okA j)) (tup3_py (marks_py okB d))).eq (by omega)
    rw [List.length_cons] at hn
    rw [List.map_cons, show enumD n (prodD ((j, i), (d, m)) :: l.map prodD) = .wt [.int (n : Nat), prodD ((j, i), (d, m))] :: enumD (n + 1) (l.map prodD) from rfl, forL_cons]
    unfold prodD recS
    dsimp only
    walk_at "dlf"
    refine ⟨by omega, trimZ a, trimZ b, j, d, (i : Nat), (m : Nat), marksL sA j, marksL sB d, rfl, by omega, log3 ht.r1, log3 ht.r2, by omega, by omega, by omega, ?_⟩
    rw [e1]
    try walk_at "dlf"
    rw [lk_eq q1]
    try walk_at "dlf"
    try rw [if_neg (by decide)]
    try walk_at "dlf"
    refine ⟨trimZ a, trimZ b, (k : Nat), j, (i : Nat), (m : Nat), (n : Nat), marksL sA j ++ marksL sB d, rfl, by omega, log3 ht.r1, log3 ht.r2, fun i hi => (ht.r1 i (trimZ_mem hi)).1, fun i hi => ⟨(ht.r2 i (trimZ_mem hi)).1, by have := (ht.r2 i (trimZ_mem hi)).2; omega⟩, sp, by rw [List.length_append]; omega, ?_⟩
    rw [e2]
    try walk_at "dlf"
    rw [lk_eq q2]
    try walk_at "dlf"
    try rw [if_neg (by decide)]
    try walk_at "dlf"
    exact ih _ _ _ (fun o z => (by cases z)) hl (by omega)
abbrev totD (LC : Addr) (a b : List Int) : D := .ins LC (layF (trimZ (mulL (trimZ a) (trimZ b))))
theorem conv_trim (a b : List Int) (n : Nat) : conv (trimZ a) (trimZ b) n = conv a b n := by
  unfold conv
  rw [← paN_convN, ← paN_convN, paN_trim]
theorem pr_b0 {k : Nat} (ht : Two a b) (hk : k ≤ 10) {o4 s6 s7 s8 s9 s10 s11 : Sl} (h4 : o4 = .own (.ins LC (layF (trimZ (mulL (trimZ a) (trimZ b))))) ∨ o4 = .dat (totD LC a b)) (h8 : ∀ o, s8 ≠ .own o)
    (hN : ∀ s6 s7 s8 s9 s10 s11, (∀ o, s8 ≠ .own o) → DD.nx [.dat (.lst (a.map .int)), .dat (.lst (b.map .int)), .dat (insT LC a), .dat (insT LC b), .dat (totD LC a b), .dat (.int (k : Nat)), s6, s7, s8, s9, s10, s11]) :
    prB0 LC DD [.dat (.lst (a.map .int)), .dat (.lst (b.map .int)), .dat (insT LC a), .dat (insT LC b), o4, .dat (.int (k : Nat)), s6, s7, s8, s9, s10, s11] := by
  have na : ∀ i ∈ a, 0 ≤ i := fun i hi => (ht.r1 i hi).1
  have nb : ∀ i ∈ b, 0 ≤ i := fun i hi => (ht.r2 i hi).1
  have l1 := ht.l1
  have l2 := ht.l2
  have la := allP_len (m := 3) ht.r1
  have pl := ptL_len (k := k) na nb
  have px : (ptL a b k).length ≤ 3 * (allP a).length := flat_len (allP a) fun q _ => by rw [List.length_map]; exact rightsP_len (m := 3) (fun i hi => (ht.r2 i hi).2) k q.1
  have et : facAt (trimZ (mulL (trimZ a) (trimZ b))) (k : Nat) = (((ptL a b k).map prodD).length : Int) := by rw [facAt_trim, facAt_nat, mulL_at, conv_trim, List.length_map, pl]
  unfold prB0
  walk_at "dlf"
  unfold prR0_1
  walk_at "dlf"
  refine ⟨a, sA, rfl, by omega, fun i hi => ⟨na i hi, by have := (ht.r1 i hi).2; omega⟩, by decide, ?_⟩
  walk_at "dlf"
  refine pr_l ht.r2 ht.l2 h8 (allP a) [] _ _ (by walk_at "len") fun s7 s9 => ?_
  rw [List.nil_append, seqE_nx, show ((allP a).flatMap fun q => (rightsP b k q.1).map fun r => (q, r)) = ptL a b k from rfl]
  unfold prR0_2
  rcases h4 with rfl | rfl
  all_goals
    walk_at "dlf"
    refine ⟨trimZ (mulL (trimZ a) (trimZ b)), k, rfl, ?_⟩
    rw [et]
    walk_at "dlf"
    try rw [if_neg (by simp)]
    try walk_at "dlf"
    unfold prR0_3
    walk_at "dlf"
    refine pr_e ht hk (fun s8 s10 s11 h8 => ?_) (ptL a b k) 0 _ _ _ h8 (ptL_along na nb) (by omega)
    exact hN _ _ _ _ _ _ h8
theorem pr_loop (ht : Two a b) (hN : ∀ (o4 s5 s6 s7 s8 s9 s10 s11 : Sl), DD.nx [.dat (.lst (a.map .int)), .dat (.lst (b.map .int)), .dat (insT LC a), .dat (insT LC b), o4, s5, s6, s7, s8, s9, s10, s11]) :
    ∀ (m n : Nat) (o4 s5 s6 s7 s8 s9 s10 s11 : Sl), n + m ≤ 10 → (∀ o, s8 ≠ .own o) → (o4 = .own (.ins LC (layF (trimZ (mulL (trimZ a) (trimZ b))))) ∨ o4 = .dat (totD LC a b)) →
    forL (hName [] 5) (prB0 LC) DD ((List.range' n m).map fun j => .int (j : Nat)) [.dat (.lst (a.map .int)), .dat (.lst (b.map .int)), .dat (insT LC a), .dat (insT LC b), o4, s5, s6, s7, s8, s9, s10, s11]
  | 0, n, o4, s5, s6, s7, s8, s9, s10, s11, e, h8, h4 => hN o4 s5 s6 s7 s8 s9 s10 s11
  | m + 1, n, o4, s5, s6, s7, s8, s9, s10, s11, e, h8, h4 => by
    rw [List.range'_succ, List.map_cons, forL_cons, e_hName, if_neg (List.not_mem_nil), k_fo2]
    refine pr_b0 ht (by omega) h4 h8 (fun s6 s7 s8 s9 s10 s11 h8 => ?_)
    rw [loopE_nx]
    exact pr_loop ht hN m (n + 1) _ _ _ _ _ _ _ _ (by omega) h8 (.inr rfl)
end
def sp__law_product_right (LC : Addr) : DSp := fun args Q _ => ∃ (a b : List Int), args = [.dat (.lst (a.map .int)), .dat (.lst (b.map .int)), .dat (insT LC a), .dat (insT LC b)] ∧ Two a b ∧ Q (.dat (.bl true)) [.dat (.lst (a.map .int)), .dat (.lst (b.map .int)), .dat (insT LC a), .dat (insT LC b)]
theorem pl__law_product_right (LC : Addr) : PL 12 4 (fun ks => rd__law_product_right ks LC (sp_into_product LC) (sp_from_product LC) sp__law_all (sp_Layout___mul__ LC) (sp_Layout___getitem__ LC)) (sp__law_product_right LC) := fun args QD ED h => by
  obtain ⟨a, b, rfl, ht, h⟩ := h
  refine ⟨rfl, ?_⟩
  show prB LC _ _
  unfold prB
  have l1 := ht.l1
  have l2 := ht.l2
  have ta := trimZ_len a
  have tb := trimZ_len b
  have g1 := log3 ht.r1
  have g2 := log3 ht.r2
  walk_at "dlf"
  refine ⟨trimZ a, trimZ b, rfl, by omega, fun i hi => ⟨(ht.r1 i (trimZ_mem hi)).1, g1 i hi⟩, fun i hi => ⟨(ht.r2 i (trimZ_mem hi)).1, g2 i hi⟩, ?_⟩
  walk_at "dlf"
  unfold prR_1
  walk_at "dlf"
  rw [show rangeD ((a.length : Int) + (b.length : Int)) = (List.range' 0 (a.length + b.length)).map fun n => .int (n : Nat) by unfold rangeD; rw [show ((a.length : Int) + (b.length : Int)).toNat = a.length + b.length by omega, List.range_eq_range']]
  refine ⟨by omega, by omega, pr_loop ht (fun o4 s5 s6 s7 s8 s9 s10 s11 => ?_) _ 0 _ _ _ _ _ _ _ _ (by omega) (fun o z => (by cases z)) (.inl rfl)⟩
  rw [seqE_nx]
  unfold prR_2
  walk_at "dlf"
  exact h

end DL

set_option Elab.async false
set_option maxRecDepth 100000
set_option maxHeartbeats 4000000
/-! S35e: the law's own. -/
namespace DL
open PySem PySem.Spec PyProof.Rows L2
local macro_rules | `(tactic| walk_at "dl") => `(tactic| simp (config := {decide := false, implicitDefEqProofs := false}) only [e_ixO, k_oi0, k_oi1, k_oi2, e_prop, k_pr1, k_pr2, e_binO, k_bo0, k_bo1, k_bo2, e_eqO, k_eo0, k_eo1, k_eo2, k_eo3, e_cnt, k_cn0, k_cn1, k_cn2, k_cn3, isLst_l, cntD_i, e_fld, k_fl1, k_fl2, k_fl3, insD_i, e_setF, k_sf1, k_sf2, q_sf, e_make, k_mk1, k_mk2, k_mk3, e_never, e_callRR, k_rr1, k_rr2, k_rr3, k_rr4, e_itEA, k_ea1, k_ea2, e_itT2, k_i1, k_i2, e_m1, k_m1, k_m1b, k_m2, k_m3, k_m4, e_itZ, k_z1, e_scLen, k_sc, k_scQ, compT_nil, compT_cons, k_t1, k_t2, k_t2b, k_t3, e_chain, k_ch, k_ch0, k_ch1, k_ch2, k_ch3, k_ch4, k_ch5, k_ch6, rev_l, rev_f, rev_t, clear_l, lista_s, max_2, min_2, inA_s, ix_s, mulA_si, seqE_nx, seqE_rt, seqE_bk, seqE_ct, loopE_nx, loopE_rt, loopE_bk, loopE_ct, e_seq, e_next, e_break, e_cont, e_retN, e_var, q_var_d, q_var_o, e_c, con_d, con_o, con_b, conS_d, conS_o, own_l, own_d, own_i, z_d, z_n, z_t, z_w, sl_d, sl_o, frz_d, frz_o, frz_b, q_frz_d, q_frz_o, frzs_nil, frzs_cons, k_fzs, k_fz, thin_d, thin_o, thin_b, k_th, thins_nil, thins_cons, k_ths, k_ts, setR_nil, setR_cons, k_e, e_op, k_op1, k_op2, k_op3, k_op4, e_un, k_un1, k_un2, e_nil, e_cons, k_co1, k_co2, conL_nil, conL_cons, k_cl, k_cl2, e_b, k_b1, k_b2, e_tup, k_tup1, k_tup2, e_lst, k_lst1, k_lst2, e_dct0, k_ret, e_call, k_ca1, k_ca2, k_retR, e_callR, k_cr1, k_cr2, k_cr3, e_tr, k_tr1, k_tr2, k_tr3, e_bl, k_bl, e_and, k_and, e_or, k_or, e_not, k_not, e_if, k_if, e_ifS, k_ifS, e_notV, k_nv1, k_nv2, e_andV, k_av1, k_av2, e_orV, k_ov1, k_ov2, bD_bl, e_sl, k_sl1, k_sl2, k_sl3, k_sl4, e_part, k_pt1, k_pt2, e_noP, e_dget, k_ge1, k_ge1b, k_ge2, k_ge3, k_ge4, dctD_d, keyD_i, keyD_s, e_mut, q_mu0, k_mu1, k_mu2, q_mu3, k_mu4, e_put, k_pu1, k_pu2, k_pu3, k_pu4, q_pu4, k_pu5, e_aug, q_au0, k_au1, k_au2, k_au3, e_asg, k_as1, k_as2, e_par, k_pa1, k_pa2, e_unp, k_up1, k_up2, e_hName, e_hNil, e_hCons, k_hc, e_hTup, e_hWt, e_drop, k_dr, e_ret, k_rt_d, k_rt_o, k_rt_b, q_out_o, q_out_d, forL_nil, forL_cons, k_fo2, e_for, k_fo1, k_wh, e_itS, k_it1, k_it2, k_it3, walk_l, walk_f, walk_t, e_itR1, k_r11, k_r12, e_itR2, k_r21, k_r22, e_itE, k_en1, k_en2, k_en3, list_l, list_f, e_lc, k_lc, k_lcQ, compL_nil, compL_cons, k_c1, k_c2, k_c3, k_c4, e_yes, wip_nil, wip_cons, unw_nil, unw_cons, g_int, f_add, f_sub, f_mul, f_div, f_mod, f_pow, f_lt, f_le, f_gt, f_ge, add_i, add_s, add_l, add_t, mul_i, mul_l, mul_t, neg_i, ix_l, ix_t, sl_l, sl_f, sl_t, len_l, len_f, len_t, len_s, abs_i, int_i, lof_l, lof_f, lof_t, tof_l, tof_f, tof_t, dof_t, app_l, ext_t, ext_l, tru_b, tru_i, tru_l, tru_t, tru_n, augN, subN, is_bl, is_non, ixN4_0, ixN4_1, ixN4_2, ixN4_3, lk_some, lk_ite, lk_map, lk_bind, ixOf, endsF_nx, endsF_dat, endsF_own, atI_0, atI_1, atI_2, atI_3, eqA_l0, eqA_tup0, eqA_int, eqA_non, bne_f, bne_t, sizeLine_eq,
  List.cons_append, List.nil_append, List.getElem?_cons_zero, List.getElem?_cons_succ, List.set_cons_zero, List.set_cons_succ, List.length_cons, List.length_nil, List.replicate, List.take_succ_cons, List.take_zero, List.not_mem_nil, List.mem_cons, List.map_cons, List.map_nil, if_false, if_true, Option.map_some, Option.bind_some, Option.getD_some, Nat.reduceAdd, Nat.reduceSub, Nat.reduceLeDiff, Nat.reduceEqDiff, Nat.succ_ne_zero, Nat.zero_ne_one, Nat.one_ne_zero, List.isEmpty_nil, List.isEmpty_cons, List.length_map, List.isEmpty_map, beq_iff_eq, Bool.not_eq_true, reduceCtorEq, or_false, or_true, false_or, true_or, and_true, true_and, List.cons.injEq, Option.some.injEq, Sl.own.injEq, Own.lst.injEq, exists_eq', not_false_eq_true, forall_const, forall_eq, forall_eq_or_imp, decide_eq_true_eq, Bool.not_true, Bool.not_false, Bool.false_eq_true, ite_self])
local macro_rules | `(tactic| walk_at "dlf") => `(tactic| simp (config := {decide := false, implicitDefEqProofs := false}) only [e_ixO, k_oi0, k_oi1, k_oi2, e_prop, k_pr1, k_pr2, e_binO, k_bo0, k_bo1, k_bo2, e_eqO, k_eo0, k_eo1, k_eo2, k_eo3, e_cnt, k_cn0, k_cn1, k_cn2, k_cn3, isLst_l, cntD_i, e_fld, k_fl1, k_fl2, k_fl3, insD_i, e_setF, k_sf1, k_sf2, q_sf, e_make, k_mk1, k_mk2, k_mk3, e_never, e_callRR, k_rr1, k_rr2, k_rr3, k_rr4, e_itEA, k_ea1, k_ea2, e_itT2, k_i1, k_i2, e_m1, k_m1, k_m1b, k_m2, k_m3, k_m4, e_itZ, k_z1, e_scLen, k_sc, k_scQ, compT_nil, compT_cons, k_t1, k_t2, k_t2b, k_t3, e_chain, k_ch, k_ch0, k_ch1, k_ch2, k_ch3, k_ch4, k_ch5, k_ch6, rev_l, rev_f, rev_t, clear_l, lista_s, max_2, min_2, inA_s, ix_s, mulA_si, seqE_nx, seqE_rt, seqE_bk, seqE_ct, loopE_nx, loopE_rt, loopE_bk, loopE_ct, e_seq, e_next, e_break, e_cont, e_retN, e_var, q_var_d, q_var_o, e_c, con_d, con_o, con_b, conS_d, conS_o, own_l, own_d, own_i, z_d, z_n, z_t, z_w, sl_d, sl_o, frz_d, frz_o, frz_b, q_frz_d, q_frz_o, frzs_nil, frzs_cons, k_fzs, k_fz, thin_d, thin_o, thin_b, k_th, thins_nil, thins_cons, k_ths, k_ts, setR_nil, setR_cons, k_e, e_op, k_op1, k_op2, k_op3, k_op4, e_un, k_un1, k_un2, e_nil, e_cons, k_co1, k_co2, conL_nil, conL_cons, k_cl, k_cl2, e_b, k_b1, k_b2, e_tup, k_tup1, k_tup2, e_lst, k_lst1, k_lst2, e_dct0, k_ret, e_call, k_ca1, k_ca2, k_retR, e_callR, k_cr1, k_cr2, k_cr3, e_tr, k_tr1, k_tr2, k_tr3, e_bl, k_bl, e_and, k_and, e_or, k_or, e_not, k_not, e_if, k_if, e_ifS, k_ifS, e_notV, k_nv1, k_nv2, e_andV, k_av1, k_av2, e_orV, k_ov1, k_ov2, bD_bl, e_sl, k_sl1, k_sl2, k_sl3, k_sl4, e_part, k_pt1, k_pt2, e_noP, e_dget, k_ge1, k_ge1b, k_ge2, k_ge3, k_ge4, dctD_d, keyD_i, keyD_s, e_mut, q_mu0, k_mu1, k_mu2, q_mu3, k_mu4, e_put, k_pu1, k_pu2, k_pu3, k_pu4, q_pu4, k_pu5, e_aug, q_au0, k_au1, k_au2, k_au3, e_asg, k_as1, k_as2, e_par, k_pa1, k_pa2, e_unp, k_up1, k_up2, e_hName, e_hNil, e_hCons, k_hc, e_hTup, e_hWt, e_drop, k_dr, e_ret, k_rt_d, k_rt_o, k_rt_b, q_out_o, q_out_d, forL_nil, k_fo2, e_for, k_fo1, k_wh, e_itS, k_it1, k_it2, k_it3, walk_l, walk_f, walk_t, e_itR1, k_r11, k_r12, e_itR2, k_r21, k_r22, e_itE, k_en1, k_en2, k_en3, list_l, list_f, e_lc, k_lc, k_lcQ, compL_nil, k_c1, k_c2, k_c3, k_c4, e_yes, wip_nil, wip_cons, unw_nil, unw_cons, g_int, f_add, f_sub, f_mul, f_div, f_mod, f_pow, f_lt, f_le, f_gt, f_ge, add_i, add_s, add_l, add_t, mul_i, mul_l, mul_t, neg_i, ix_l, ix_t, sl_l, sl_f, sl_t, len_l, len_f, len_t, len_s, abs_i, int_i, lof_l, lof_f, lof_t, tof_l, tof_f, tof_t, dof_t, app_l, ext_t, ext_l, tru_b, tru_i, tru_l, tru_t, tru_n, augN, subN, is_bl, is_non, ixN4_0, ixN4_1, ixN4_2, ixN4_3, lk_some, lk_ite, lk_map, lk_bind, ixOf, endsF_nx, endsF_dat, endsF_own, atI_0, atI_1, atI_2, atI_3, eqA_l0, eqA_tup0, eqA_int, eqA_non, bne_f, bne_t, sizeLine_eq,
  List.cons_append, List.nil_append, List.getElem?_cons_zero, List.getElem?_cons_succ, List.set_cons_zero, List.set_cons_succ, List.length_cons, List.length_nil, List.replicate, List.take_succ_cons, List.take_zero, List.not_mem_nil, List.mem_cons, List.map_cons, List.map_nil, if_false, if_true, Option.map_some, Option.bind_some, Option.getD_some, Nat.reduceAdd, Nat.reduceSub, Nat.reduceLeDiff, Nat.reduceEqDiff, Nat.succ_ne_zero, Nat.zero_ne_one, Nat.one_ne_zero, List.isEmpty_nil, List.isEmpty_cons, List.length_map, List.isEmpty_map, beq_iff_eq, Bool.not_eq_true, reduceCtorEq, or_false, or_true, false_or, true_or, and_true, true_and, List.cons.injEq, Option.some.injEq, Sl.own.injEq, Own.lst.injEq, exists_eq', not_false_eq_true, forall_const, forall_eq, forall_eq_or_imp, decide_eq_true_eq, Bool.not_true, Bool.not_false, Bool.false_eq_true, ite_self])
local macro_rules | `(tactic| walk_at "len") => `(tactic| first | omega | (simp only [List.length_append, List.length_cons, List.length_nil, List.length_map, List.length_singleton, List.length_replicate, List.length_range, List.length_take, List.length_drop, List.length_reverse]; omega) | (simp; omega) | (simp; done))
/-! ### far -/
def rd__law_far_right (ks : List Nat) (LC : Addr) (sp_into_sum : DSp) (sp_from_sum : DSp) (sp__law_factor_at : DSp) (sp_into_product : DSp) (sp_from_product : DSp) (sp__law_marks_of : DSp) (sp__law_below : DSp) (sp_Layout : DSp) : SD :=
  (wSeq (wUnp ks (wTup ks (wCons (wLc ks (wItR1 (wCons (wC (.int 3)) wNil)) (hName ks 12) wYes (wOp gAdd (wC (.int 1)) (wCallR ks sp__law_below (wCons (wVar 0) (wCons (wOp (gInt fPow) (wC (.int 10)) (wC (.int 9))) wNil)))) [12]) (wCons (wLc ks (wItR1 (wCons (wC (.int 4)) wNil)) (hName ks 12) wYes (wOp gAdd (wC (.int 1)) (wCallR ks sp__law_below (wCons (wVar 0) (wCons (wOp (gInt fPow) (wC (.int 10)) (wC (.int 9))) wNil)))) [12]) wNil))) (hTup 2 (hCons (hName ks 1) (hCons (hName ks 2) hNil))))
  (wSeq (wPar ks [3, 4] (wCons (wMake ks LC sp_Layout (wCons (wVar 1) wNil)) (wCons (wMake ks LC sp_Layout (wCons (wVar 2) wNil)) wNil)))
  (wSeq (wUnp ks (wTup ks (wCons (wCallR ks sp__law_below (wCons (wVar 0) (wCons (wC (.int 3)) wNil))) (wCons (wCallR ks sp__law_below (wCons (wVar 0) (wCons (wC (.int 4)) wNil))) wNil))) (hTup 2 (hCons (hName ks 5) (hCons (hName ks 6) hNil))))
  (wSeq (wAsg ks 7 (wTup ks (wCons (wVar 5) (wCons (wCallR ks sp__law_below (wCons (wVar 0) (wCons (wOp gIx (wVar 1) (wVar 5)) wNil))) (wCons (wCall ks sp__law_marks_of (wCons (wVar 5) (wCons (wC (.str "a")) wNil))) wNil)))))
  (wSeq (wAsg ks 8 (wTup ks (wCons (wVar 6) (wCons (wCallR ks sp__law_below (wCons (wVar 0) (wCons (wOp gIx (wVar 2) (wVar 6)) wNil))) (wCons (wCall ks sp__law_marks_of (wCons (wVar 6) (wCons (wC (.str "b")) wNil))) wNil)))))
  (wSeq (wAsg ks 9 (wOp gAdd (wOp gAdd (wB gSum (wCons (wLc ks (wItR1 (wCons (wVar 5) wNil)) (hName ks 13) wYes (wOp gMul (wOp gIx (wVar 1) (wVar 13)) (wCall ks sp__law_factor_at (wCons (wVar 2) (wCons (wOp (gInt fSub) (wOp gAdd (wVar 5) (wVar 6)) (wVar 13)) wNil)))) [13]) wNil)) (wOp gMul (wOp gIx (wVar 7) (wC (.int 1))) (wOp gIx (wVar 2) (wVar 6)))) (wOp gIx (wVar 8) (wC (.int 1)))))
  (wSeq (wAsg ks 10 (wTup ks (wCons (wOp gAdd (wVar 5) (wVar 6)) (wCons (wVar 9) (wCons (wOp gAdd (wOp gIx (wVar 7) (wC (.int 2))) (wOp gIx (wVar 8) (wC (.int 2)))) wNil)))))
  (wSeq (wIfS (wOr (wBl (wOp (gEqA true) (wCall ks sp_into_product (wCons (wVar 3) (wCons (wVar 4) (wCons (wVar 7) (wCons (wVar 8) wNil))))) (wVar 10))) (wBl (wOp (gEqA true) (wCall ks sp_from_product (wCons (wVar 3) (wCons (wVar 4) (wCons (wVar 10) wNil)))) (wTup ks (wCons (wVar 7) (wCons (wVar 8) wNil)))))) (wRet ks (wC (.bl false))) wNext)
  (wSeq (wAsg ks 11 (wTup ks (wCons (wVar 6) (wCons (wOp gAdd (wOp gIx (wVar 8) (wC (.int 1))) (wCall ks sp__law_factor_at (wCons (wVar 1) (wCons (wVar 6) wNil)))) (wCons (wOp gIx (wVar 8) (wC (.int 2))) wNil)))))
  (wRet ks (wAndV (wOp (gEqA false) (wCall ks sp_into_sum (wCons (wVar 3) (wCons (wVar 4) (wCons (wC (.int 1)) (wCons (wVar 8) wNil))))) (wVar 11)) (wOp (gEqA false) (wCall ks sp_from_sum (wCons (wVar 3) (wCons (wVar 4) (wCons (wVar 11) wNil)))) (wTup ks (wCons (wC (.int 1)) (wCons (wVar 8) wNil)))))))))))))))
def frR_9 (LC : Addr) : SD := (wRet [0] (wAndV (wOp (gEqA false) (wCall [0] (sp_into_sum LC) (wCons (wVar 3) (wCons (wVar 4) (wCons (wC (.int 1)) (wCons (wVar 8) wNil))))) (wVar 11)) (wOp (gEqA false) (wCall [0] (sp_from_sum LC) (wCons (wVar 3) (wCons (wVar 4) (wCons (wVar 11) wNil)))) (wTup [0] (wCons (wC (.int 1)) (wCons (wVar 8) wNil))))))
def frR_8 (LC : Addr) : SD := (wSeq (wAsg [0] 11 (wTup [0] (wCons (wVar 6) (wCons (wOp gAdd (wOp gIx (wVar 8) (wC (.int 1))) (wCall [0] sp__law_factor_at (wCons (wVar 1) (wCons (wVar 6) wNil)))) (wCons (wOp gIx (wVar 8) (wC (.int 2))) wNil))))) (frR_9 LC))
def frR_7 (LC : Addr) : SD := (wSeq (wIfS (wOr (wBl (wOp (gEqA true) (wCall [0] (sp_into_product LC) (wCons (wVar 3) (wCons (wVar 4) (wCons (wVar 7) (wCons (wVar 8) wNil))))) (wVar 10))) (wBl (wOp (gEqA true) (wCall [0] (sp_from_product LC) (wCons (wVar 3) (wCons (wVar 4) (wCons (wVar 10) wNil)))) (wTup [0] (wCons (wVar 7) (wCons (wVar 8) wNil)))))) (wRet [0] (wC (.bl false))) wNext) (frR_8 LC))
def frR_6 (LC : Addr) : SD := (wSeq (wAsg [0] 10 (wTup [0] (wCons (wOp gAdd (wVar 5) (wVar 6)) (wCons (wVar 9) (wCons (wOp gAdd (wOp gIx (wVar 7) (wC (.int 2))) (wOp gIx (wVar 8) (wC (.int 2)))) wNil))))) (frR_7 LC))
def frR_5 (LC : Addr) : SD := (wSeq (wAsg [0] 9 (wOp gAdd (wOp gAdd (wB gSum (wCons (wLc [0] (wItR1 (wCons (wVar 5) wNil)) (hName [0] 13) wYes (wOp gMul (wOp gIx (wVar 1) (wVar 13)) (wCall [0] sp__law_factor_at (wCons (wVar 2) (wCons (wOp (gInt fSub) (wOp gAdd (wVar 5) (wVar 6)) (wVar 13)) wNil)))) [13]) wNil)) (wOp gMul (wOp gIx (wVar 7) (wC (.int 1))) (wOp gIx (wVar 2) (wVar 6)))) (wOp gIx (wVar 8) (wC (.int 1))))) (frR_6 LC))
def frR_4 (LC : Addr) : SD := (wSeq (wAsg [0] 8 (wTup [0] (wCons (wVar 6) (wCons (wCallR [0] sp__law_below (wCons (wVar 0) (wCons (wOp gIx (wVar 2) (wVar 6)) wNil))) (wCons (wCall [0] sp__law_marks_of (wCons (wVar 6) (wCons (wC (.str "b")) wNil))) wNil))))) (frR_5 LC))
def frR_3 (LC : Addr) : SD := (wSeq (wAsg [0] 7 (wTup [0] (wCons (wVar 5) (wCons (wCallR [0] sp__law_below (wCons (wVar 0) (wCons (wOp gIx (wVar 1) (wVar 5)) wNil))) (wCons (wCall [0] sp__law_marks_of (wCons (wVar 5) (wCons (wC (.str "a")) wNil))) wNil))))) (frR_4 LC))
def frR_2 (LC : Addr) : SD := (wSeq (wUnp [0] (wTup [0] (wCons (wCallR [0] sp__law_below (wCons (wVar 0) (wCons (wC (.int 3)) wNil))) (wCons (wCallR [0] sp__law_below (wCons (wVar 0) (wCons (wC (.int 4)) wNil))) wNil))) (hTup 2 (hCons (hName [0] 5) (hCons (hName [0] 6) hNil)))) (frR_3 LC))
def frR_1 (LC : Addr) : SD := (wSeq (wPar [0] [3, 4] (wCons (wMake [0] LC (sp_Layout___init__ LC) (wCons (wVar 1) wNil)) (wCons (wMake [0] LC (sp_Layout___init__ LC) (wCons (wVar 2) wNil)) wNil))) (frR_2 LC))
abbrev frB (LC : Addr) : SD := (wSeq (wUnp [0] (wTup [0] (wCons (wLc [0] (wItR1 (wCons (wC (.int 3)) wNil)) (hName [0] 12) wYes (wOp gAdd (wC (.int 1)) (wCallR [0] sp__law_below (wCons (wVar 0) (wCons (wOp (gInt fPow) (wC (.int 10)) (wC (.int 9))) wNil)))) [12]) (wCons (wLc [0] (wItR1 (wCons (wC (.int 4)) wNil)) (hName [0] 12) wYes (wOp gAdd (wC (.int 1)) (wCallR [0] sp__law_below (wCons (wVar 0) (wCons (wOp (gInt fPow) (wC (.int 10)) (wC (.int 9))) wNil)))) [12]) wNil))) (hTup 2 (hCons (hName [0] 1) (hCons (hName [0] 2) hNil)))) (frR_1 LC))

theorem log_ten {i : Int} (h0 : 0 ≤ i) (h : i ≤ 1000000000) : i.natAbs.log2 < 100 := by
  have := log2_of (n := 61) (Nat.lt_of_lt_of_le (by omega : i.natAbs < 2 ^ 60) (by decide)) (by decide)
  omega
section
variable {n : Nat} {LC : Addr} {DD : EndsD}
theorem fr_comp {n : Nat} {QI : List D → Rho → Prop} : ∀ (ds : List D) (o : Own) (l : List Int), Dk (n + ds.length) o → l.length + ds.length ≤ 100 → (∀ i ∈ l, 1 ≤ i ∧ i ≤ 1000000000) →
    (∀ (o' : Own) (l' : List Int), Dk n o' → l'.length = l.length + ds.length → (∀ i ∈ l', 1 ≤ i ∧ i ≤ 1000000000) → QI (l'.map .int) [.own o', .no, .no, .no, .no, .no, .no, .no, .no, .no, .no, .no, .no, .no]) →
    compL [0] (hName [0] 12) wYes (wOp gAdd (wC (.int 1)) (wCallR [0] sp__law_below (wCons (wVar 0) (wCons (wOp (gInt fPow) (wC (.int 10)) (wC (.int 9))) wNil)))) [12] ds (l.map .int) [.own o, .no, .no, .no, .no, .no, .no, .no, .no, .no, .no, .no, .no, .no] QI
  | [], o, l, hd, hl, hr, q => q o l hd rfl hr
  | d :: ds, o, l, hd, hl, hr, q => by
    rw [List.length_cons] at hd hl q
    walk_at "dl"
    refine ⟨⟨by decide, by decide, by decide⟩, n + ds.length, o, _, rfl, hd.mono (by omega), by decide, by decide, fun r o1 r0 r1' hd1 => ?_⟩
    have r1 : r < 1000000000 := r1'
    walk_at "dl"
    have e : l.map D.int ++ [D.int (1 + r)] = (l ++ [1 + r]).map D.int := by rw [List.map_append]; rfl
    rw [e]
    refine ⟨by omega, fr_comp ds o1 (l ++ [1 + r]) hd1 (by rw [List.length_append, List.length_singleton]; omega) (fun i hi => ?_) (fun o' l' a1 a2 a3 => q o' l' a1 (by rw [a2, List.length_append, List.length_singleton]; omega) a3)⟩
    rcases List.mem_append.mp hi with h | h
    · exact hr i h
    · rw [List.mem_singleton.mp h]; omega
structure Far (a b : List Int) : Prop where
  l1 : a.length = 3
  l2 : b.length = 4
  r1 : ∀ i ∈ a, 1 ≤ i ∧ i ≤ 1000000000
  r2 : ∀ i ∈ b, 1 ≤ i ∧ i ≤ 1000000000
theorem far_at {a : List Int} {j : Nat} (h : ∀ i ∈ a, 1 ≤ i ∧ i ≤ 1000000000) (hj : j < a.length) : 1 ≤ facAt a (j : Nat) ∧ facAt a (j : Nat) ≤ 1000000000 := by
  obtain ⟨v, hv, _, e⟩ := facAt_in (l := a) (i := (j : Nat)) (by omega) (by omega)
  rw [e]; exact h v hv
theorem far_log {a : List Int} (h : ∀ i ∈ a, 1 ≤ i ∧ i ≤ 1000000000) : LogOk (trimZ a) := fun i hi => by
  have h1 := h i (trimZ_mem hi)
  have := log_ten (i := i) (by omega) (by omega)
  omega
variable {a b : List Int} {j m : Nat} {i r : Int} {o : Own}
abbrev leftD (j : Nat) (i : Int) : D := .tup [.int (j : Nat), .int i, .tup (marksL sA j)]
abbrev rightD (m : Nat) (r : Int) : D := .tup [.int (m : Nat), .int r, .tup (marksL sB m)]
abbrev FEnd (DD : EndsD) (n : Nat) : Prop := ∀ (o : Own) (s1 s2 s3 s4 s5 s6 s7 s8 s9 s10 s11 s12 s13 : Sl), Dk n o → DD.rt (.dat (.bl true)) [.own o, s1, s2, s3, s4, s5, s6, s7, s8, s9, s10, s11, s12, s13]
theorem fr_r8 {s9 s10 s11 : Sl} (hd : Dk n o) (hf : Far a b) (hm : m < 4) (r0 : 0 ≤ r) (h : FEnd DD n) :
    frR_8 LC DD [.own o, .dat (.lst (a.map .int)), .dat (.lst (b.map .int)), .dat (insT LC a), .dat (insT LC b), .dat (.int (j : Nat)), .dat (.int (m : Nat)), .dat (leftD j i), .dat (rightD m r), s9, s10, s11, .no, .no] := by
  have q1 : gEqA false (.tup [.int (m : Nat), .int (r + facAt a (m : Nat)), .tup (marksL sB m)]) (.tup [.int (m : Nat), .int (r + facAt a (m : Nat)), .tup (marksL sB m)]) = some (.d (.bl true)) := (tup3_py (marks_py okB m)).eq (by omega)
  have q2 : gEqA false (.tup [.int 1, .tup [.int (m : Nat), .int r, .tup (marksL sB m)]]) (.tup [.int 1, .tup [.int (m : Nat), .int r, .tup (marksL sB m)]]) = some (.d (.bl true)) := (tup2_py (pyk_int.mono (by omega)) (tup3_py (marks_py okB m))).eq (by omega)
  unfold frR_8
  walk_at "dlf"
  refine ⟨a, (m : Nat), rfl, ?_⟩
  walk_at "dlf"
  unfold frR_9
  walk_at "dlf"
  refine ⟨trimZ a, trimZ b, 1, (m : Nat), r, .tup (marksL sB m), rfl, ?_⟩
  rw [if_pos rfl, facAt_trim]
  walk_at "dlf"
  rw [lk_eq q1]
  try walk_at "dlf"
  try rw [if_pos rfl]
  try walk_at "dlf"
  refine ⟨trimZ a, trimZ b, (m : Nat), r + facAt a (m : Nat), .tup (marksL sB m), rfl, ?_⟩
  rw [facAt_trim, if_neg (by omega), show r + facAt a (m : Nat) - facAt a (m : Nat) = r by omega]
  walk_at "dlf"
  rw [lk_eq q2]
  try walk_at "dlf"
  exact h _ _ _ _ _ _ _ _ _ _ _ _ _ _ hd
theorem fr_r7 {s9 s11 : Sl} (hd : Dk n o) (hf : Far a b) (hj : j < 3) (hm : m < 4) (i0 : 0 ≤ i) (i1 : i < facAt a (j : Nat)) (r0 : 0 ≤ r) (r1 : r < facAt b (m : Nat)) (h : FEnd DD n) :
    frR_7 LC DD [.own o, .dat (.lst (a.map .int)), .dat (.lst (b.map .int)), .own (.ins LC (layF (trimZ a))), .own (.ins LC (layF (trimZ b))), .dat (.int (j : Nat)), .dat (.int (m : Nat)), .dat (leftD j i), .dat (rightD m r), s9, .dat (.tup [.int ((j : Int) + (m : Int)), .int (paN a b ((j : Int) + (m : Int)) j + i * facAt b (m : Nat) + r), .tup (marksL sA j ++ marksL sB m)]), s11, .no, .no] := by
  have lm1 := marksL_len sA j
  have lm2 := marksL_len sB m
  have fj := far_at hf.r1 (j := j) (by have := hf.l1; omega)
  have g1 := far_log hf.r1
  have g2 := far_log hf.r2
  have li := log_ten (i := i) i0 (by omega)
  have dd : (j : Int) + (m : Int) - (j : Int) = (m : Int) := by omega
  have sp : Spot (trimZ a) (trimZ b) ((j : Int) + (m : Int)) j i r (paN a b ((j : Int) + (m : Int)) j + i * facAt b (m : Nat) + r) :=
    ⟨i0, by rw [facAt_trim]; exact i1, r0, by rw [facAt_trim, dd]; exact r1, by rw [facAt_trim, paN_trim, dd]⟩
  have e2 : D.tup [.tup [.int (j : Nat), .int i, .tup ((marksL sA j ++ marksL sB m).take j)], .tup [.int ((j : Int) + (m : Int) - (j : Int)), .int r, .tup ((marksL sA j ++ marksL sB m).drop j)]] = .tup [.tup [.int (j : Nat), .int i, .tup (marksL sA j)], .tup [.int (m : Nat), .int r, .tup (marksL sB m)]] := by
    rw [List.take_left' lm1, List.drop_left' lm1, dd]
  have q1 : ∀ x y : Int, gEqA true (.tup [.int x, .int y, .tup (marksL sA j ++ marksL sB m)]) (.tup [.int x, .int y, .tup (marksL sA j ++ marksL sB m)]) = some (.d (.bl false)) := fun x y => (tup3_py (mem_app (marks_py okA j) (marks_py okB m))).eq (by omega)
  have q2 : gEqA true (.tup [.tup [.int (j : Nat), .int i, .tup (marksL sA j)], .tup [.int (m : Nat), .int r, .tup (marksL sB m)]]) (.tup [.tup [.int (j : Nat), .int i, .tup (marksL sA j)], .tup [.int (m : Nat), .int r, .tup (marksL sB m)]]) = some (.d (.bl false)) := (tup2_py (tup3_py (marks_py okA j)) (tup3_py (marks_py okB m))).eq (by omega)
  unfold frR_7
  walk_at "dlf"
  refine ⟨trimZ a, trimZ b, j, m, i, r, marksL sA j, marksL sB m, rfl, by omega, g1, g2, by omega, by omega, by omega, ?_⟩
  rw [paN_trim, facAt_trim]
  try walk_at "dlf"
  rw [lk_eq (q1 _ _)]
  try walk_at "dlf"
  try rw [if_neg (by decide)]
  try walk_at "dlf"
  refine ⟨trimZ a, trimZ b, (j : Int) + (m : Int), j, i, r, _, marksL sA j ++ marksL sB m, rfl, by omega, g1, g2, fun x hx => by have := hf.r1 x (trimZ_mem hx); omega, fun x hx => by have := hf.r2 x (trimZ_mem hx); omega, sp, by rw [List.length_append]; omega, ?_⟩
  rw [e2]
  try walk_at "dlf"
  rw [lk_eq q2]
  try walk_at "dlf"
  try rw [if_neg (by decide)]
  try walk_at "dlf"
  exact fr_r8 hd hf hm r0 h
theorem fr_r5 {s9 s10 s11 : Sl} (hd : Dk n o) (hf : Far a b) (hj : j < 3) (hm : m < 4) (i0 : 0 ≤ i) (i1 : i < facAt a (j : Nat)) (r0 : 0 ≤ r) (r1 : r < facAt b (m : Nat)) (h : FEnd DD n) :
    frR_5 LC DD [.own o, .dat (.lst (a.map .int)), .dat (.lst (b.map .int)), .own (.ins LC (layF (trimZ a))), .own (.ins LC (layF (trimZ b))), .dat (.int (j : Nat)), .dat (.int (m : Nat)), .dat (leftD j i), .dat (rightD m r), s9, s10, s11, .no, .no] := by
  have l1 := hf.l1
  have l2 := hf.l2
  have fj := far_at hf.r1 (j := j) (by omega)
  have fm := far_at hf.r2 (j := m) (by omega)
  have li := log_ten (i := i) i0 (by omega)
  have lb := log_ten (i := facAt b (m : Nat)) (by omega) (by omega)
  have nb : ∀ q : Int, (facAt b q).natAbs.log2 < 100 := fun q => log_ten (facAt_nn (fun x hx => by have := hf.r2 x hx; omega) q) (facAt_leN (by decide) (fun x hx => (hf.r2 x hx).2) q)
  have na : ∀ q : Int, (facAt a q).natAbs.log2 < 100 := fun q => log_ten (facAt_nn (fun x hx => by have := hf.r1 x hx; omega) q) (facAt_leN (by decide) (fun x hx => (hf.r1 x hx).2) q)
  unfold frR_5
  walk_at "dlf"
  rw [show rangeD (j : Nat) = (List.range j).map fun n => .int (n : Nat) by unfold rangeD; rw [Int.toNat_natCast]]
  refine ⟨by omega, by omega, fun o z => (by cases z), ?_⟩
  refine at_comp (P := fun q => q < j) (g := fun n : Nat => .int (n : Nat)) (f := fun q : Nat => .int (facAt a (q : Nat) * facAt b ((j : Int) + (m : Int) - (q : Int)))) (fun q Q hq h => ?_) rfl (List.range j) [] (fun q hq => List.mem_range.mp hq) (by walk_at "len") ?_
  · have qa := na (q : Nat)
    have qb := nb ((j : Int) + (m : Int) - (q : Int))
    walk_at "dlf"
    rw [lk_eq (at_getZ (l := a) (i := (q : Nat)) (by omega) (by omega))]
    try walk_at "dlf"
    refine ⟨b, (j : Int) + (m : Int) - (q : Int), rfl, ?_⟩
    walk_at "dlf"
    refine ⟨by omega, ?_⟩
    exact h
  rw [List.nil_append]
  walk_at "dlf"
  rw [show (List.range j).map (fun q : Nat => D.int (facAt a (q : Nat) * facAt b ((j : Int) + (m : Int) - (q : Int)))) = ((List.range j).map fun q : Nat => facAt a (q : Nat) * facAt b ((j : Int) + (m : Int) - (q : Int))).map .int by rw [List.map_map]; rfl, lk_eq (sum_l _), ← paN_sum]
  walk_at "dlf"
  rw [lk_eq (at_getZ (l := b) (i := (m : Nat)) (by omega) (by omega))]
  try walk_at "dlf"
  refine ⟨by omega, ?_⟩
  try walk_at "dlf"
  unfold frR_6
  walk_at "dlf"
  refine ⟨by have := marksL_len sA j; have := marksL_len sB m; omega, ?_⟩
  try walk_at "dlf"
  exact fr_r7 hd hf hj hm i0 i1 r0 r1 h
theorem fr_r2 {s5 s6 s7 s8 s9 s10 s11 : Sl} (hd : Dk (n + 10) o) (hf : Far a b) (h : FEnd DD n) :
    frR_2 LC DD [.own o, .dat (.lst (a.map .int)), .dat (.lst (b.map .int)), .own (.ins LC (layF (trimZ a))), .own (.ins LC (layF (trimZ b))), s5, s6, s7, s8, s9, s10, s11, .no, .no] := by
  have l1 := hf.l1
  have l2 := hf.l2
  unfold frR_2
  walk_at "dlf"
  refine ⟨n + 9, o, _, rfl, hd, by decide, by decide, fun j o1 j0 j1 hd1 => ?_⟩
  obtain ⟨j, rfl⟩ := Int.eq_ofNat_of_zero_le j0
  have fj := far_at hf.r1 (j := j) (by omega)
  walk_at "dlf"
  refine ⟨n + 8, o1, _, rfl, hd1, by decide, by decide, fun m o2 m0 m1 hd2 => ?_⟩
  obtain ⟨m, rfl⟩ := Int.eq_ofNat_of_zero_le m0
  have fm := far_at hf.r2 (j := m) (by omega)
  walk_at "dlf"
  unfold frR_3
  walk_at "dlf"
  rw [lk_eq (at_getZ (l := a) (i := (j : Nat)) (by omega) (by omega))]
  try walk_at "dlf"
  refine ⟨n + 7, o2, _, rfl, hd2, by omega, by omega, fun i o3 i0 i1 hd3 => ?_⟩
  walk_at "dlf"
  refine ⟨j, sA, rfl, by omega, by decide, ?_⟩
  walk_at "dlf"
  unfold frR_4
  walk_at "dlf"
  rw [lk_eq (at_getZ (l := b) (i := (m : Nat)) (by omega) (by omega))]
  try walk_at "dlf"
  refine ⟨n + 6, o3, _, rfl, hd3, by omega, by omega, fun r o4 r0 r1 hd4 => ?_⟩
  walk_at "dlf"
  refine ⟨m, sB, rfl, by omega, by decide, ?_⟩
  walk_at "dlf"
  exact fr_r5 (hd4.mono (by omega)) hf (by omega) (by omega) i0 i1 r0 r1 h
end
def sp__law_far_right (LC : Addr) : DSp := fun args Q _ => ∃ (n : Nat) (o : Own), args = [.own o] ∧ Dk (n + 20) o ∧ ∀ o', Dk n o' → Q (.dat (.bl true)) [.own o']
theorem pl__law_far_right (LC : Addr) : PL 14 1 (fun ks => rd__law_far_right ks LC (sp_into_sum LC) (sp_from_sum LC) sp__law_factor_at (sp_into_product LC) (sp_from_product LC) sp__law_marks_of sp__law_below (sp_Layout___init__ LC)) (sp__law_far_right LC) := fun args QD ED h => by
  obtain ⟨n, o, rfl, hd, h⟩ := h
  refine ⟨rfl, ?_⟩
  show frB LC _ _
  unfold frB
  walk_at "dlf"
  have l3 : (rangeD 3).length = 3 := by decide
  have l4 : (rangeD 4).length = 4 := by decide
  refine ⟨by decide, by decide, fun o z => (by cases z), ?_⟩
  refine fr_comp (n := n + 17) (rangeD 3) o [] (hd.mono (by rw [l3]; omega)) (by rw [l3, List.length_nil]; omega) (fun i hi => (by cases hi)) fun o1 a hd1 la ra => ?_
  rw [l3, List.length_nil, Nat.zero_add] at la
  walk_at "dlf"
  refine ⟨by decide, by decide, fun o z => (by cases z), ?_⟩
  refine fr_comp (n := n + 13) (rangeD 4) o1 [] (hd1.mono (by rw [l4]; omega)) (by rw [l4, List.length_nil]; omega) (fun i hi => (by cases hi)) fun o2 b hd2 lb rb => ?_
  rw [l4, List.length_nil, Nat.zero_add] at lb
  have hf : Far a b := ⟨la, lb, ra, rb⟩
  have fs : ∀ {l : List Int}, l.length ≤ 41 → (∀ i ∈ l, 1 ≤ i ∧ i ≤ 1000000000) → FsOk l := fun {l} h1 h2 => ⟨by have := trimZ_len l; omega, by omega, fun i hi => by have := h2 i hi; omega⟩
  walk_at "dlf"
  unfold frR_1
  walk_at "dlf"
  refine ⟨_, a, rfl, .inl rfl, fs (by omega) ra, ?_⟩
  walk_at "dlf"
  refine ⟨_, b, rfl, .inl rfl, fs (by omega) rb, ?_⟩
  walk_at "dlf"
  exact fr_r2 (DD := endsF 1 QD) (n := n) (hd2.mono (by omega)) hf fun o s1 s2 s3 s4 s5 s6 s7 s8 s9 s10 s11 s12 s13 hd => h o hd
/-! ### the law -/
def rd_law (ks : List Nat) (LC : Addr) (sp__law_far_right : DSp) (sp__law_product_right : DSp) (sp__law_sum_right : DSp) (sp__law_below : DSp) (sp__law_pick : DSp) (sp__law_some_factors : DSp) (sp__law_deck_of : DSp) (sp_Layout : DSp) : SD :=
  (wSeq (wAsg ks 1 (wCall ks sp__law_deck_of (wCons (wVar 0) wNil)))
  (wSeq (wFor (wItR1 (wCons (wC (.int 2)) wNil)) (hName ks 2) (wSeq (wPar ks [3, 4] (wCons (wCallR ks sp__law_some_factors (wCons (wVar 1) (wCons (wC (.int 3)) (wCons (wC (.int 3)) wNil)))) (wCons (wCallR ks sp__law_some_factors (wCons (wVar 1) (wCons (wC (.int 3)) (wCons (wC (.int 3)) wNil)))) wNil)))
  (wSeq (wIfS (wBl (wOp (gEqA false) (wCallR ks sp__law_below (wCons (wVar 1) (wCons (wC (.int 9)) wNil))) (wC (.int 0)))) (wAsg ks 3 (wCallR ks sp__law_pick (wCons (wVar 1) (wCons (wLst ks (wCons (wLst ks wNil) (wCons (wLst ks (wCons (wC (.int 0)) (wCons (wC (.int 0)) wNil))) (wCons (wLst ks (wCons (wC (.int 3)) wNil)) (wCons (wLst ks (wCons (wC (.int 1)) wNil)) wNil))))) wNil)))) wNext)
  (wSeq (wPar ks [5, 6] (wCons (wMake ks LC sp_Layout (wCons (wVar 3) wNil)) (wCons (wMake ks LC sp_Layout (wCons (wVar 4) wNil)) wNil)))
  (wSeq (wIfS (wOr (wNot (wTr (wCall ks sp__law_sum_right (wCons (wVar 3) (wCons (wVar 4) (wCons (wVar 5) (wCons (wVar 6) wNil))))))) (wNot (wTr (wCall ks sp__law_product_right (wCons (wVar 3) (wCons (wVar 4) (wCons (wVar 5) (wCons (wVar 6) wNil)))))))) (wRet ks (wC (.bl false))) wNext)
  (wIfS (wOr (wNot (wTr (wCall ks sp__law_product_right (wCons (wVar 4) (wCons (wVar 3) (wCons (wVar 6) (wCons (wVar 5) wNil))))))) (wNot (wTr (wCall ks sp__law_sum_right (wCons (wVar 4) (wCons (wVar 3) (wCons (wVar 6) (wCons (wVar 5) wNil)))))))) (wRet ks (wC (.bl false))) wNext))))))
  (wRet ks (wCallR ks sp__law_far_right (wCons (wVar 1) wNil)))))
def lawR0_4 (LC : Addr) : SD := (wIfS (wOr (wNot (wTr (wCall [] (sp__law_product_right LC) (wCons (wVar 4) (wCons (wVar 3) (wCons (wVar 6) (wCons (wVar 5) wNil))))))) (wNot (wTr (wCall [] (sp__law_sum_right LC) (wCons (wVar 4) (wCons (wVar 3) (wCons (wVar 6) (wCons (wVar 5) wNil)))))))) (wRet [] (wC (.bl false))) wNext)
def lawR0_3 (LC : Addr) : SD := (wSeq (wIfS (wOr (wNot (wTr (wCall [] (sp__law_sum_right LC) (wCons (wVar 3) (wCons (wVar 4) (wCons (wVar 5) (wCons (wVar 6) wNil))))))) (wNot (wTr (wCall [] (sp__law_product_right LC) (wCons (wVar 3) (wCons (wVar 4) (wCons (wVar 5) (wCons (wVar 6) wNil)))))))) (wRet [] (wC (.bl false))) wNext) (lawR0_4 LC))
def lawR0_2 (LC : Addr) : SD := (wSeq (wPar [] [5, 6] (wCons (wMake [] LC (sp_Layout___init__ LC) (wCons (wVar 3) wNil)) (wCons (wMake [] LC (sp_Layout___init__ LC) (wCons (wVar 4) wNil)) wNil))) (lawR0_3 LC))
def lawR0_1 (LC : Addr) : SD := (wSeq (wIfS (wBl (wOp (gEqA false) (wCallR [] sp__law_below (wCons (wVar 1) (wCons (wC (.int 9)) wNil))) (wC (.int 0)))) (wAsg [] 3 (wCallR [] sp__law_pick (wCons (wVar 1) (wCons (wLst [] (wCons (wLst [] wNil) (wCons (wLst [] (wCons (wC (.int 0)) (wCons (wC (.int 0)) wNil))) (wCons (wLst [] (wCons (wC (.int 3)) wNil)) (wCons (wLst [] (wCons (wC (.int 1)) wNil)) wNil))))) wNil)))) wNext) (lawR0_2 LC))
abbrev lawB0 (LC : Addr) : SD := (wSeq (wPar [] [3, 4] (wCons (wCallR [] sp__law_some_factors (wCons (wVar 1) (wCons (wC (.int 3)) (wCons (wC (.int 3)) wNil)))) (wCons (wCallR [] sp__law_some_factors (wCons (wVar 1) (wCons (wC (.int 3)) (wCons (wC (.int 3)) wNil)))) wNil))) (lawR0_1 LC))
def lawR_2 (LC : Addr) : SD := (wRet [] (wCallR [] (sp__law_far_right LC) (wCons (wVar 1) wNil)))
def lawR_1 (LC : Addr) : SD := (wSeq (wFor (wItR1 (wCons (wC (.int 2)) wNil)) (hName [] 2) (lawB0 LC)) (lawR_2 LC))
abbrev lawB (LC : Addr) : SD := (wSeq (wAsg [] 1 (wCall [] sp__law_deck_of (wCons (wVar 0) wNil))) (lawR_1 LC))

section
variable {n : Nat} {LC : Addr} {DD : EndsD} {s0 s2 : Sl} {a b : List Int} {o : Own}
abbrev LEnd (DD : EndsD) (n : Nat) (s0 s2 : Sl) : Prop := ∀ (o : Own) (s3 s4 s5 s6 : Sl), Dk n o → DD.nx [s0, .own o, s2, s3, s4, s5, s6]
theorem law_r3 {s3 s4 s5 s6 : Sl} (ht : Two a b) (hd : Dk n o) (h : LEnd DD n s0 s2)
    (h3 : s3 = .dat (.lst (a.map .int)) ∨ s3 = .own (.lst (a.map .int))) (h4 : s4 = .dat (.lst (b.map .int)) ∨ s4 = .own (.lst (b.map .int)))
    (h5 : s5 = .own (.ins LC (layF (trimZ a)))) (h6 : s6 = .own (.ins LC (layF (trimZ b)))) :
    lawR0_3 LC DD [s0, .own o, s2, s3, s4, s5, s6] := by
  subst h5; subst h6
  unfold lawR0_3
  rcases h3 with rfl | rfl <;> rcases h4 with rfl | rfl
  all_goals
    walk_at "dlf"
    refine ⟨a, b, rfl, ht, ?_⟩
    walk_at "dlf"
    try rw [if_pos rfl]
    try walk_at "dlf"
    refine ⟨a, b, rfl, ht, ?_⟩
    walk_at "dlf"
    try rw [if_pos rfl]
    try walk_at "dlf"
    unfold lawR0_4
    walk_at "dlf"
    refine ⟨b, a, rfl, ht.sw, ?_⟩
    walk_at "dlf"
    try rw [if_pos rfl]
    try walk_at "dlf"
    refine ⟨b, a, rfl, ht.sw, ?_⟩
    walk_at "dlf"
    try rw [if_pos rfl]
    try walk_at "dlf"
    exact h _ _ _ _ _ hd
theorem law_r2 {s3 s4 s5 s6 : Sl} (ht : Two a b) (hd : Dk n o) (h : LEnd DD n s0 s2)
    (h3 : s3 = .dat (.lst (a.map .int)) ∨ s3 = .own (.lst (a.map .int))) (h4 : s4 = .own (.lst (b.map .int))) :
    lawR0_2 LC DD [s0, .own o, s2, s3, s4, s5, s6] := by
  subst h4
  unfold lawR0_2
  have l1 := ht.l1
  have l2 := ht.l2
  have fs : ∀ {l : List Int}, l.length ≤ 41 → (∀ i ∈ l, 0 ≤ i ∧ i ≤ 3) → FsOk l := fun {l} h1 h2 => ⟨by have := trimZ_len l; omega, by omega, fun i hi => (h2 i hi).1⟩
  rcases h3 with rfl | rfl
  all_goals
    walk_at "dlf"
    refine ⟨_, a, rfl, .inl rfl, fs (by omega) ht.r1, ?_⟩
    walk_at "dlf"
    refine ⟨_, b, rfl, .inl rfl, fs (by omega) ht.r2, ?_⟩
    walk_at "dlf"
    exact law_r3 ht hd h (.inl rfl) (.inl rfl) rfl rfl
theorem law_b0 {s3 s4 s5 s6 : Sl} (hd : Dk (n + 40) o) (h : LEnd DD n s0 s2) : lawB0 LC DD [s0, .own o, s2, s3, s4, s5, s6] := by
  unfold lawB0
  walk_at "dlf"
  refine ⟨n + 30, o, 3, 3, rfl, hd.mono (by omega), by decide, by decide, by decide, fun L o1 _ hL hLr hd1 => ?_⟩
  walk_at "dlf"
  refine ⟨n + 20, o1, 3, 3, rfl, hd1.mono (by omega), by decide, by decide, by decide, fun M o2 _ hM hMr hd2 => ?_⟩
  walk_at "dlf"
  unfold lawR0_1
  walk_at "dlf"
  refine ⟨n + 19, o2, _, rfl, hd2, by decide, by decide, fun r o3 r0 r1 hd3 => ?_⟩
  walk_at "dlf"
  by_cases hr : r = 0
  · rw [if_pos hr]
    try walk_at "dlf"
    refine ⟨n + 18, o3, _, rfl, hd3, by simp, by simp, fun x o4 hx hd4 => ?_⟩
    walk_at "dlf"
    simp only [List.mem_cons, List.not_mem_nil, or_false] at hx
    have tw : ∀ l : List Int, l.length ≤ 5 → (∀ i ∈ l, 0 ≤ i ∧ i ≤ 3) → Two l M := fun l h1 h2 => ⟨h1, by omega, h2, hMr⟩
    rcases hx with rfl | rfl | rfl | rfl
    · exact law_r2 (a := []) (tw _ (by decide) (by decide)) (hd4.mono (by omega)) h (.inl rfl) rfl
    · exact law_r2 (a := [0, 0]) (tw _ (by decide) (by decide)) (hd4.mono (by omega)) h (.inl rfl) rfl
    · exact law_r2 (a := [3]) (tw _ (by decide) (by decide)) (hd4.mono (by omega)) h (.inl rfl) rfl
    · exact law_r2 (a := [1]) (tw _ (by decide) (by decide)) (hd4.mono (by omega)) h (.inl rfl) rfl
  · rw [if_neg hr]
    try walk_at "dlf"
    exact law_r2 ⟨by omega, by omega, hLr, hMr⟩ (hd3.mono (by omega)) h (.inr rfl) rfl
theorem law_turns (h : ∀ (o : Own) (s2 s3 s4 s5 s6 : Sl), Dk n o → DD.nx [s0, .own o, s2, s3, s4, s5, s6]) : ∀ (ds : List D) (o : Own) (s2 s3 s4 s5 s6 : Sl), Dk (n + 40 * ds.length) o →
    forL (hName [] 2) (lawB0 LC) DD ds [s0, .own o, s2, s3, s4, s5, s6]
  | [], o, s2, s3, s4, s5, s6, hd => h o s2 s3 s4 s5 s6 hd
  | d :: ds, o, s2, s3, s4, s5, s6, hd => by
    rw [List.length_cons] at hd
    rw [forL_cons, e_hName, if_neg (List.not_mem_nil), k_fo2]
    refine law_b0 (n := n + 40 * ds.length) (hd.mono (by omega)) fun o' s3 s4 s5 s6 hd' => ?_
    rw [loopE_nx]
    exact law_turns h ds o' _ _ _ _ _ hd'
end
def sp_law : DSp := fun args Q _ => ∃ (l : List Int), args = [.dat (.fzl (l.map .int))] ∧ l.length ≤ 63 ∧ Q (.dat (.bl true)) [.dat (.fzl (l.map .int))]
theorem pl_law (LC : Addr) : PL 7 1 (fun ks => rd_law ks LC (sp__law_far_right LC) (sp__law_product_right LC) (sp__law_sum_right LC) sp__law_below sp__law_pick sp__law_some_factors sp__law_deck_of (sp_Layout___init__ LC)) sp_law := fun args QD ED h => by
  obtain ⟨l, rfl, hl, h⟩ := h
  refine ⟨rfl, ?_⟩
  show lawB LC _ _
  unfold lawB
  walk_at "dlf"
  refine ⟨l, rfl, hl, fun o hd => ?_⟩
  walk_at "dlf"
  unfold lawR_1
  walk_at "dlf"
  have l2 : (rangeD 2).length = 2 := by decide
  refine ⟨by decide, by decide, law_turns (n := 1000) (fun o2 s2 s3 s4 s5 s6 hd2 => ?_) (rangeD 2) o _ _ _ _ _ (hd.mono (by rw [l2]; omega))⟩
  rw [seqE_nx]
  unfold lawR_2
  walk_at "dlf"
  refine ⟨980, o2, rfl, hd2, fun o3 hd3 => ?_⟩
  walk_at "dlf"
  exact h

end DL

set_option Elab.async false
set_option maxRecDepth 100000
set_option maxHeartbeats 4000000
namespace DL
open PySem PySem.Spec PyProof.Rows L2
structure Blts (mg : Str → Option Value) (base : Heap) : Prop where
  all : mg "all" = none
  sum : mg "sum" = none
  max : mg "max" = none
  min : mg "min" = none
  len : mg "len" = none
  abs : mg "abs" = none
  int : mg "int" = none
  str : mg "str" = none
  bool : mg "bool" = none
  repr : mg "repr" = none
  isinstance : mg "isinstance" = none
  list : mg "list" = none
  tuple : mg "tuple" = none
  dict : mg "dict" = none
  range : mg "range" = none
  enumerate : mg "enumerate" = none
  mods : ModsOk base
def top (i : Nat) : Stmt := PySem.Challenge.pw_layoutswap_k35_whole_records_of_sums_and.main.body.getD i (.Pass ⟨0, 0, 0, 0⟩)
abbrev s_is_integer : Stmt := top 6
abbrev n_is_integer : List Str := ["thing"]
theorem sc_is_integer : FnScope n_is_integer ["thing"] (defScope s_is_integer) := ⟨rfl, rfl, rfl, by decide +kernel, rfl, by decide +kernel, by decide +kernel⟩
abbrev s_trimmed : Stmt := top 16
abbrev n_trimmed : List Str := ["factors", "some"]
theorem sc_trimmed : FnScope n_trimmed ["factors"] (defScope s_trimmed) := ⟨rfl, rfl, rfl, by decide +kernel, rfl, by decide +kernel, by decide +kernel⟩
abbrev s_added : Stmt := top 17
abbrev n_added : List Str := ["one", "other", "size", "left", "right", "k"]
theorem sc_added : FnScope n_added ["one", "other"] (defScope s_added) := ⟨rfl, rfl, rfl, by decide +kernel, rfl, by decide +kernel, by decide +kernel⟩
abbrev s_multiplied : Stmt := top 18
abbrev n_multiplied : List Str := ["one", "other", "found", "size", "low", "high", "place"]
theorem sc_multiplied : FnScope n_multiplied ["one", "other"] (defScope s_multiplied) := ⟨rfl, rfl, rfl, by decide +kernel, rfl, by decide +kernel, by decide +kernel⟩
abbrev s_factors_of : Stmt := top 19
abbrev n_factors_of : List Str := ["thing"]
theorem sc_factors_of : FnScope n_factors_of ["thing"] (defScope s_factors_of) := ⟨rfl, rfl, rfl, by decide +kernel, rfl, by decide +kernel, by decide +kernel⟩
abbrev s_factor_at : Stmt := top 8
abbrev n_factor_at : List Str := ["factors", "k"]
theorem sc_factor_at : FnScope n_factor_at ["factors", "k"] (defScope s_factor_at) := ⟨rfl, rfl, rfl, by decide +kernel, rfl, by decide +kernel, by decide +kernel⟩
abbrev s_into_sum : Stmt := top 9
abbrev n_into_sum : List Str := ["one", "other", "side", "record", "k", "i", "some"]
theorem sc_into_sum : FnScope n_into_sum ["one", "other", "side", "record"] (defScope s_into_sum) := ⟨rfl, rfl, rfl, by decide +kernel, rfl, by decide +kernel, by decide +kernel⟩
abbrev s_from_sum : Stmt := top 10
abbrev n_from_sum : List Str := ["one", "other", "record", "k", "i", "some", "ahead"]
theorem sc_from_sum : FnScope n_from_sum ["one", "other", "record"] (defScope s_from_sum) := ⟨rfl, rfl, rfl, by decide +kernel, rfl, by decide +kernel, by decide +kernel⟩
abbrev s_pairs_ahead : Stmt := top 11
abbrev n_pairs_ahead : List Str := ["one", "other", "k", "many", "j"]
theorem sc_pairs_ahead : FnScope n_pairs_ahead ["one", "other", "k", "many"] (defScope s_pairs_ahead) := ⟨rfl, rfl, rfl, by decide +kernel, rfl, by decide +kernel, by decide +kernel⟩
abbrev s_into_product : Stmt := top 12
abbrev n_into_product : List Str := ["one", "other", "first", "second", "k", "index"]
theorem sc_into_product : FnScope n_into_product ["one", "other", "first", "second"] (defScope s_into_product) := ⟨rfl, rfl, rfl, by decide +kernel, rfl, by decide +kernel, by decide +kernel⟩
abbrev s_from_product : Stmt := top 13
abbrev n_from_product : List Str := ["one", "other", "record", "k", "index", "some", "j", "share"]
theorem sc_from_product : FnScope n_from_product ["one", "other", "record"] (defScope s_from_product) := ⟨rfl, rfl, rfl, by decide +kernel, rfl, by decide +kernel, by decide +kernel⟩
abbrev s_Layout___init__ : Stmt := inClass (top 21) 0
abbrev n_Layout___init__ : List Str := ["self", "factors", "one"]
theorem sc_Layout___init__ : FnScope n_Layout___init__ ["self", "factors"] (defScope s_Layout___init__) := ⟨rfl, rfl, rfl, by decide +kernel, rfl, by decide +kernel, by decide +kernel⟩
abbrev s_Layout___add__ : Stmt := inClass (top 21) 6
abbrev n_Layout___add__ : List Str := ["self", "other"]
theorem sc_Layout___add__ : FnScope n_Layout___add__ ["self", "other"] (defScope s_Layout___add__) := ⟨rfl, rfl, rfl, by decide +kernel, rfl, by decide +kernel, by decide +kernel⟩
abbrev s_Layout___mul__ : Stmt := inClass (top 21) 8
abbrev n_Layout___mul__ : List Str := ["self", "other"]
theorem sc_Layout___mul__ : FnScope n_Layout___mul__ ["self", "other"] (defScope s_Layout___mul__) := ⟨rfl, rfl, rfl, by decide +kernel, rfl, by decide +kernel, by decide +kernel⟩
abbrev s_Layout___getitem__ : Stmt := inClass (top 21) 17
abbrev n_Layout___getitem__ : List Str := ["self", "at"]
theorem sc_Layout___getitem__ : FnScope n_Layout___getitem__ ["self", "at"] (defScope s_Layout___getitem__) := ⟨rfl, rfl, rfl, by decide +kernel, rfl, by decide +kernel, by decide +kernel⟩
abbrev s__law_mixed : Stmt := top 23
abbrev n__law_mixed : List Str := ["number", "lap", "prime", "found", "again"]
theorem sc__law_mixed : FnScope n__law_mixed ["number", "lap"] (defScope s__law_mixed) := ⟨rfl, rfl, rfl, by decide +kernel, rfl, by decide +kernel, by decide +kernel⟩
abbrev s__law_deck_of : Stmt := top 24
abbrev n__law_deck_of : List Str := ["script", "cell", "cells", "place"]
theorem sc__law_deck_of : FnScope n__law_deck_of ["script"] (defScope s__law_deck_of) := ⟨rfl, rfl, rfl, by decide +kernel, rfl, by decide +kernel, by decide +kernel⟩
abbrev s__law_below : Stmt := top 25
abbrev n__law_below : List Str := ["deck", "bound", "cells", "place", "amount", "found"]
theorem sc__law_below : FnScope n__law_below ["deck", "bound"] (defScope s__law_below) := ⟨rfl, rfl, rfl, by decide +kernel, rfl, by decide +kernel, by decide +kernel⟩
abbrev s__law_pick : Stmt := top 26
abbrev n__law_pick : List Str := ["deck", "some"]
theorem sc__law_pick : FnScope n__law_pick ["deck", "some"] (defScope s__law_pick) := ⟨rfl, rfl, rfl, by decide +kernel, rfl, by decide +kernel, by decide +kernel⟩
abbrev s__law_some_factors : Stmt := top 27
abbrev n__law_some_factors : List Str := ["deck", "degree", "most", "found", "k"]
theorem sc__law_some_factors : FnScope n__law_some_factors ["deck", "degree", "most"] (defScope s__law_some_factors) := ⟨rfl, rfl, rfl, by decide +kernel, rfl, by decide +kernel, by decide +kernel⟩
abbrev s__law_marks_of : Stmt := top 28
abbrev n__law_marks_of : List Str := ["k", "sign", "place"]
theorem sc__law_marks_of : FnScope n__law_marks_of ["k", "sign"] (defScope s__law_marks_of) := ⟨rfl, rfl, rfl, by decide +kernel, rfl, by decide +kernel, by decide +kernel⟩
abbrev s__law_all : Stmt := top 29
abbrev n__law_all : List Str := ["factors", "sign", "found", "k", "factor", "index"]
theorem sc__law_all : FnScope n__law_all ["factors", "sign"] (defScope s__law_all) := ⟨rfl, rfl, rfl, by decide +kernel, rfl, by decide +kernel, by decide +kernel⟩
abbrev s__law_factor_at : Stmt := top 30
abbrev n__law_factor_at : List Str := ["factors", "k"]
theorem sc__law_factor_at : FnScope n__law_factor_at ["factors", "k"] (defScope s__law_factor_at) := ⟨rfl, rfl, rfl, by decide +kernel, rfl, by decide +kernel, by decide +kernel⟩
abbrev s__law_sum_right : Stmt := top 31
abbrev n__law_sum_right : List Str := ["one", "other", "first", "second", "total", "seen", "k", "marks", "index", "due", "pair"]
theorem sc__law_sum_right : FnScope n__law_sum_right ["one", "other", "first", "second"] (defScope s__law_sum_right) := ⟨rfl, rfl, rfl, by decide +kernel, rfl, by decide +kernel, by decide +kernel⟩
abbrev s__law_product_right : Stmt := top 32
abbrev n__law_product_right : List Str := ["one", "other", "first", "second", "total", "k", "due", "left", "pair", "right", "index", "record"]
theorem sc__law_product_right : FnScope n__law_product_right ["one", "other", "first", "second"] (defScope s__law_product_right) := ⟨rfl, rfl, rfl, by decide +kernel, rfl, by decide +kernel, by decide +kernel⟩
abbrev s__law_far_right : Stmt := top 33
abbrev n__law_far_right : List Str := ["deck", "one", "other", "first", "second", "j", "m", "left", "right", "due", "record", "there", "k", "short"]
theorem sc__law_far_right : FnScope n__law_far_right ["deck"] (defScope s__law_far_right) := ⟨rfl, rfl, rfl, by decide +kernel, rfl, by decide +kernel, by decide +kernel⟩
abbrev s_law : Stmt := top 34
abbrev n_law : List Str := ["script", "deck", "turn", "one", "other", "first", "second"]
theorem sc_law : FnScope n_law ["script"] (defScope s_law) := ⟨rfl, rfl, rfl, by decide +kernel, rfl, by decide +kernel, by decide +kernel⟩

theorem dv_is_integer {P : Program} {w : World} {K : PySem.W.Frag} {mg : Str → Option Value} {base : Heap} {f : Addr} {cdv : Value} {A : Around} {out : List Env} {s0 : Shared} {H : Hp} {E : XK} {b : Bas} {k : Nat} {ks : List Nat} (zb : Blts mg base) (hk : b.kp.map (·.1) = ks) (room : Room k (A.deeper (envOfC "is_integer" (defScope s_is_integer) s0.heap.objs.size f cdv))) (grd : (A.deeper (envOfC "is_integer" (defScope s_is_integer) s0.heap.objs.size f cdv)).guards = some []) :
    PSsD (cxOf CX0 P w K mg base n_is_integer "is_integer" (defScope s_is_integer) f cdv A out s0 H E).nox b (defBody s_is_integer) (rd_is_integer ks) :=
  (ss_one (s_ret hk (d_and (d_b call_isi b_isi rfl zb.isinstance bt_isinstance (a_cons (d_var 0 (pv 0)) (a_cons (d_tyN rfl zb.int bt_int) a_nil))) (d_one (d_not (d_b call_isi b_isi rfl zb.isinstance bt_isinstance (a_cons (d_var 0 (pv 0)) (a_cons (d_tyN rfl zb.bool bt_bool) a_nil))))))))
theorem dv_trimmed {P : Program} {w : World} {K : PySem.W.Frag} {mg : Str → Option Value} {base : Heap} {f : Addr} {cdv : Value} {A : Around} {out : List Env} {s0 : Shared} {H : Hp} {E : XK} {b : Bas} {k : Nat} {ks : List Nat} (zb : Blts mg base) (hk : b.kp.map (·.1) = ks) (room : Room k (A.deeper (envOfC "trimmed" (defScope s_trimmed) s0.heap.objs.size f cdv))) (grd : (A.deeper (envOfC "trimmed" (defScope s_trimmed) s0.heap.objs.size f cdv)).guards = some []) :
    PSsD (cxOf CX0 P w K mg base n_trimmed "trimmed" (defScope s_trimmed) f cdv A out s0 H E).nox b (defBody s_trimmed) (rd_trimmed ks) :=
  (ss_cons (s_set (i := 1) hk sc_trimmed.nd rfl (.inl rfl) (d_ty call_list_of b_listOf rfl zb.list bt_list (a_cons (d_var 0 (pv 0)) a_nil)))
      (ss_cons (s_while PassesOwn.never (t_w (tw_and (t_cmp (op_neA (u64 room)) o_eqA (d_var 1 (pv 1)) (d_lst hk a_nil) rfl) (tw_and1 (t_cmp (op_eqA (u64 room)) o_eqA (d_ix ix_seq o_ix (d_var 1 (pv 1)) (d_un un_neg o_neg (d_c (.int 1) pe_int))) (d_c (.int 0) pe_int) rfl)))) (ss_one (s_expr (d_mut0 (i := 1) hk m_pop mt_pop F.plainAttrs_list F.slot_list_pop F.type_list_pop (pv 1)))))
      (ss_one (s_ret hk (d_ty call_tupP b_tupOf rfl zb.tuple bt_tuple (a_cons (d_var 1 (pv 1)) a_nil))))))
theorem dv_added {P : Program} {w : World} {K : PySem.W.Frag} {mg : Str → Option Value} {base : Heap} {f : Addr} {cdv : Value} {A : Around} {out : List Env} {s0 : Shared} {H : Hp} {E : XK} {b : Bas} {k : Nat} {ks : List Nat} (zb : Blts mg base) (hk : b.kp.map (·.1) = ks) (room : Room k (A.deeper (envOfC "added" (defScope s_added) s0.heap.objs.size f cdv))) (grd : (A.deeper (envOfC "added" (defScope s_added) s0.heap.objs.size f cdv)).guards = some []) :
    PSsD (cxOf CX0 P w K mg base n_added "added" (defScope s_added) f cdv A out s0 H E).nox b (defBody s_added) (rd_added ks) :=
  (ss_cons (s_set (i := 2) hk sc_added.nd rfl (.inl rfl) (d_b (call_maxA rfl) b_max rfl zb.max bt_max (a_cons (d_b call_len b_len rfl zb.len bt_len (a_cons (d_var 0 (pv 0)) a_nil)) (a_cons (d_b call_len b_len rfl zb.len bt_len (a_cons (d_var 1 (pv 1)) a_nil)) a_nil))))
      (ss_cons (s_set (i := 3) hk sc_added.nd rfl (.inr rfl) (d_op op_add3 o_add3 (d_ty call_list_of b_listOf rfl zb.list bt_list (a_cons (d_var 0 (pv 0)) a_nil)) (d_op op_mulA o_mulA (d_lst hk (a_cons (d_c (.int 0) pe_int) a_nil)) (d_op op_sub o_sub (d_var 2 (pv 2)) (d_b call_len b_len rfl zb.len bt_len (a_cons (d_var 0 (pv 0)) a_nil))))))
      (ss_cons (s_set (i := 4) hk sc_added.nd rfl (.inr rfl) (d_op op_add3 o_add3 (d_ty call_list_of b_listOf rfl zb.list bt_list (a_cons (d_var 1 (pv 1)) a_nil)) (d_op op_mulA o_mulA (d_lst hk (a_cons (d_c (.int 0) pe_int) a_nil)) (d_op op_sub o_sub (d_var 2 (pv 2)) (d_b call_len b_len rfl zb.len bt_len (a_cons (d_var 1 (pv 1)) a_nil))))))
      (ss_one (s_ret hk (d_lc (own := [("k", 5)]) hk (by decide) rfl sc_added.nd (i_range1 rfl zb.range (a_cons (d_var 2 (pv 2)) a_nil)) (blk_ok (N := n_added) (sc := defScope s_added) (by decide +kernel)) (fun s H C cl fp => (g_name (i := 5) hk sc_added.nd rfl (.inl rfl))) (fun s H C cl fp => ts_nil) (fun s H C cl fp => (d_op op_add3 o_add3 (d_ix ix_seq o_ix (d_var 3 (pv 3)) (d_var 5 (pv 5))) (d_ix ix_seq o_ix (d_var 4 (pv 4)) (d_var 5 (pv 5)))))))))))
theorem dv_multiplied {P : Program} {w : World} {K : PySem.W.Frag} {mg : Str → Option Value} {base : Heap} {f : Addr} {cdv : Value} {A : Around} {out : List Env} {s0 : Shared} {H : Hp} {E : XK} {b : Bas} {k : Nat} {ks : List Nat} (zb : Blts mg base) (hk : b.kp.map (·.1) = ks) (room : Room k (A.deeper (envOfC "multiplied" (defScope s_multiplied) s0.heap.objs.size f cdv))) (grd : (A.deeper (envOfC "multiplied" (defScope s_multiplied) s0.heap.objs.size f cdv)).guards = some []) :
    PSsD (cxOf CX0 P w K mg base n_multiplied "multiplied" (defScope s_multiplied) f cdv A out s0 H E).nox b (defBody s_multiplied) (rd_multiplied ks) :=
  (ss_cons (s_set (i := 2) hk sc_multiplied.nd rfl (.inl rfl) (d_lst hk a_nil))
      (ss_cons (s_for PassesOwn.never rfl (i_range1 rfl zb.range (a_cons (d_op op_sub o_sub (d_op op_add3 o_add3 (d_b call_len b_len rfl zb.len bt_len (a_cons (d_var 0 (pv 0)) a_nil)) (d_b call_len b_len rfl zb.len bt_len (a_cons (d_var 1 (pv 1)) a_nil))) (d_c (.int 1) pe_int)) a_nil)) (g_name (i := 3) hk sc_multiplied.nd rfl (.inr rfl)) (ss_cons (s_par2 (i := 4) (j := 5) hk rfl sc_multiplied.nd rfl rfl (by decide) rfl rfl (a_cons (d_b (call_maxA rfl) b_max rfl zb.max bt_max (a_cons (d_c (.int 0) pe_int) (a_cons (d_op op_add3 o_add3 (d_op op_sub o_sub (d_var 3 (pv 3)) (d_b call_len b_len rfl zb.len bt_len (a_cons (d_var 1 (pv 1)) a_nil))) (d_c (.int 1) pe_int)) a_nil))) (a_cons (d_b (call_minA rfl) b_min rfl zb.min bt_min (a_cons (d_var 3 (pv 3)) (a_cons (d_op op_sub o_sub (d_b call_len b_len rfl zb.len bt_len (a_cons (d_var 0 (pv 0)) a_nil)) (d_c (.int 1) pe_int)) a_nil))) a_nil)) rfl)
      (ss_one (s_expr (d_mut (i := 2) hk m_append mt_append F.plainAttrs_list F.slot_list_append F.type_list_append (pv 2) (a_cons (d_b (cr_sum rfl) b_sum rfl zb.sum bt_sum (a_cons (d_lc (own := [("place", 6)]) hk (by decide) rfl sc_multiplied.nd (i_range2 rfl zb.range (a_cons (d_var 4 (pv 4)) (a_cons (d_op op_add3 o_add3 (d_var 5 (pv 5)) (d_c (.int 1) pe_int)) a_nil))) (blk_ok (N := n_multiplied) (sc := defScope s_multiplied) (by decide +kernel)) (fun s H C cl fp => (g_name (i := 6) hk sc_multiplied.nd rfl (.inl rfl))) (fun s H C cl fp => ts_nil) (fun s H C cl fp => (d_op op_mulA o_mulA (d_ix ix_seq o_ix (d_var 0 (pv 0)) (d_var 6 (pv 6))) (d_ix ix_seq o_ix (d_var 1 (pv 1)) (d_op op_sub o_sub (d_var 3 (pv 3)) (d_var 6 (pv 6))))))) a_nil)) a_nil))))))
      (ss_one (s_ret hk (d_var 2 (pv 2))))))
theorem dv_factors_of {P : Program} {w : World} {K : PySem.W.Frag} {mg : Str → Option Value} {base : Heap} {f : Addr} {cdv : Value} {A : Around} {out : List Env} {s0 : Shared} {H : Hp} {E : XK} {b : Bas} {k : Nat} {ks : List Nat} (zb : Blts mg base) (hk : b.kp.map (·.1) = ks) (room : Room k (A.deeper (envOfC "factors_of" (defScope s_factors_of) s0.heap.objs.size f cdv))) (grd : (A.deeper (envOfC "factors_of" (defScope s_factors_of) s0.heap.objs.size f cdv)).guards = some []) {LC : Addr} (cl_LC : Cls K LC) (na_LC_factors : NoAttr K LC "factors") (ic_LC : IsC K LC) (mc_LC : mg "Layout" = some (.ref LC)) (nt_LC_int : PySem.W.mroIn K LC (.type "int") = some false) :
    PSsD (cxOf CX0 P w K mg base n_factors_of "factors_of" (defScope s_factors_of) f cdv A out s0 H E).nox b (defBody s_factors_of) (rd_factors_of ks LC) :=
  (ss_one (s_ret hk (d_if (t_tr (d_b call_isi (b_isiN cl_LC ic_LC nt_LC_int (by decide)) rfl zb.isinstance bt_isinstance (a_cons (d_var 0 (pv 0)) (a_cons (d_tyN rfl zb.int bt_int) a_nil)))) (d_tup hk (a_cons (d_var 0 (pv 0)) a_nil)) (d_fld cl_LC na_LC_factors (d_var 0 (pv 0))))))
theorem dv_factor_at {P : Program} {w : World} {K : PySem.W.Frag} {mg : Str → Option Value} {base : Heap} {f : Addr} {cdv : Value} {A : Around} {out : List Env} {s0 : Shared} {H : Hp} {E : XK} {b : Bas} {k : Nat} {ks : List Nat} (zb : Blts mg base) (hk : b.kp.map (·.1) = ks) (room : Room k (A.deeper (envOfC "factor_at" (defScope s_factor_at) s0.heap.objs.size f cdv))) (grd : (A.deeper (envOfC "factor_at" (defScope s_factor_at) s0.heap.objs.size f cdv)).guards = some []) :
    PSsD (cxOf CX0 P w K mg base n_factor_at "factor_at" (defScope s_factor_at) f cdv A out s0 H E).nox b (defBody s_factor_at) (rd_factor_at ks) :=
  (ss_one (s_ret hk (d_if (t_chain op_le op_lt o_le o_lt (d_c (.int 0) pe_int) (d_var 1 (pv 1)) (d_b call_len b_len rfl zb.len bt_len (a_cons (d_var 0 (pv 0)) a_nil))) (d_ix ix_seq o_ix (d_var 0 (pv 0)) (d_var 1 (pv 1))) (d_c (.int 0) pe_int))))
theorem dv_into_sum {P : Program} {w : World} {K : PySem.W.Frag} {mg : Str → Option Value} {base : Heap} {f : Addr} {cdv : Value} {A : Around} {out : List Env} {s0 : Shared} {H : Hp} {E : XK} {b : Bas} {k : Nat} {ks : List Nat} (zb : Blts mg base) (hk : b.kp.map (·.1) = ks) (room : Room k (A.deeper (envOfC "into_sum" (defScope s_into_sum) s0.heap.objs.size f cdv))) (grd : (A.deeper (envOfC "into_sum" (defScope s_into_sum) s0.heap.objs.size f cdv)).guards = some []) {LC : Addr} (cl_LC : Cls K LC) (na_LC_factors : NoAttr K LC "factors") {sp_factor_at : DSp} {k_factor_at : Nat} (c_factor_at : KnownP P w K mg base k_factor_at "factor_at" sp_factor_at) (h_factor_at : k_factor_at ≤ k) :
    PSsD (cxOf CX0 P w K mg base n_into_sum "into_sum" (defScope s_into_sum) f cdv A out s0 H E).nox b (defBody s_into_sum) (rd_into_sum ks LC sp_factor_at) :=
  (ss_cons (s_unp hk (d_var 3 (pv 3)) (g_tup rfl (gs_cons (g_name (i := 4) hk sc_into_sum.nd rfl (.inl rfl)) (gs_cons (g_name (i := 5) hk sc_into_sum.nd rfl (.inl rfl)) (gs_cons (g_name (i := 6) hk sc_into_sum.nd rfl (.inl rfl)) gs_nil)))))
      (ss_one (s_ret hk (d_if (t_cmp (op_eqA (u64 room)) o_eqA (d_var 2 (pv 2)) (d_c (.int 1) pe_int) rfl) (d_tup hk (a_cons (d_var 4 (pv 4)) (a_cons (d_op op_add3 o_add3 (d_var 5 (pv 5)) (d_callP hk c_factor_at (room.mono h_factor_at) grd rfl (a_cons (d_fld cl_LC na_LC_factors (d_var 0 (pv 0))) (a_cons (d_var 4 (pv 4)) a_nil)))) (a_cons (d_var 6 (pv 6)) a_nil)))) (d_var 3 (pv 3))))))
theorem dv_from_sum {P : Program} {w : World} {K : PySem.W.Frag} {mg : Str → Option Value} {base : Heap} {f : Addr} {cdv : Value} {A : Around} {out : List Env} {s0 : Shared} {H : Hp} {E : XK} {b : Bas} {k : Nat} {ks : List Nat} (zb : Blts mg base) (hk : b.kp.map (·.1) = ks) (room : Room k (A.deeper (envOfC "from_sum" (defScope s_from_sum) s0.heap.objs.size f cdv))) (grd : (A.deeper (envOfC "from_sum" (defScope s_from_sum) s0.heap.objs.size f cdv)).guards = some []) {LC : Addr} (cl_LC : Cls K LC) (na_LC_factors : NoAttr K LC "factors") {sp_factor_at : DSp} {k_factor_at : Nat} (c_factor_at : KnownP P w K mg base k_factor_at "factor_at" sp_factor_at) (h_factor_at : k_factor_at ≤ k) :
    PSsD (cxOf CX0 P w K mg base n_from_sum "from_sum" (defScope s_from_sum) f cdv A out s0 H E).nox b (defBody s_from_sum) (rd_from_sum ks LC sp_factor_at) :=
  (ss_cons (s_unp hk (d_var 2 (pv 2)) (g_tup rfl (gs_cons (g_name (i := 3) hk sc_from_sum.nd rfl (.inl rfl)) (gs_cons (g_name (i := 4) hk sc_from_sum.nd rfl (.inl rfl)) (gs_cons (g_name (i := 5) hk sc_from_sum.nd rfl (.inl rfl)) gs_nil)))))
      (ss_cons (s_set (i := 6) hk sc_from_sum.nd rfl (.inl rfl) (d_callP hk c_factor_at (room.mono h_factor_at) grd rfl (a_cons (d_fld cl_LC na_LC_factors (d_var 0 (pv 0))) (a_cons (d_var 3 (pv 3)) a_nil))))
      (ss_one (s_ret hk (d_if (t_cmp op_lt o_lt (d_var 4 (pv 4)) (d_var 6 (pv 6)) rfl) (d_tup hk (a_cons (d_c (.int 0) pe_int) (a_cons (d_var 2 (pv 2)) a_nil))) (d_tup hk (a_cons (d_c (.int 1) pe_int) (a_cons (d_tup hk (a_cons (d_var 3 (pv 3)) (a_cons (d_op op_sub o_sub (d_var 4 (pv 4)) (d_var 6 (pv 6))) (a_cons (d_var 5 (pv 5)) a_nil)))) a_nil))))))))
theorem dv_pairs_ahead {P : Program} {w : World} {K : PySem.W.Frag} {mg : Str → Option Value} {base : Heap} {f : Addr} {cdv : Value} {A : Around} {out : List Env} {s0 : Shared} {H : Hp} {E : XK} {b : Bas} {k : Nat} {ks : List Nat} (zb : Blts mg base) (hk : b.kp.map (·.1) = ks) (room : Room k (A.deeper (envOfC "pairs_ahead" (defScope s_pairs_ahead) s0.heap.objs.size f cdv))) (grd : (A.deeper (envOfC "pairs_ahead" (defScope s_pairs_ahead) s0.heap.objs.size f cdv)).guards = some []) {LC : Addr} (cl_LC : Cls K LC) (na_LC_factors : NoAttr K LC "factors") {sp_factor_at : DSp} {k_factor_at : Nat} (c_factor_at : KnownP P w K mg base k_factor_at "factor_at" sp_factor_at) (h_factor_at : k_factor_at ≤ k) :
    PSsD (cxOf CX0 P w K mg base n_pairs_ahead "pairs_ahead" (defScope s_pairs_ahead) f cdv A out s0 H E).nox b (defBody s_pairs_ahead) (rd_pairs_ahead ks LC sp_factor_at) :=
  (ss_one (s_ret hk (d_b (cr_sum rfl) b_sum rfl zb.sum bt_sum (a_cons (d_lc (own := [("j", 4)]) hk (by decide) rfl sc_pairs_ahead.nd (i_range1 rfl zb.range (a_cons (d_var 3 (pv 3)) a_nil)) (blk_ok (N := n_pairs_ahead) (sc := defScope s_pairs_ahead) (by decide +kernel)) (fun s H C cl fp => (g_name (i := 4) hk sc_pairs_ahead.nd rfl (.inl rfl))) (fun s H C cl fp => ts_nil) (fun s H C cl fp => (d_op op_mulA o_mulA (d_callP hk c_factor_at (room.mono h_factor_at) grd rfl (a_cons (d_fld cl_LC na_LC_factors (d_var 0 (pv 0))) (a_cons (d_var 4 (pv 4)) a_nil))) (d_callP hk c_factor_at (room.mono h_factor_at) grd rfl (a_cons (d_fld cl_LC na_LC_factors (d_var 1 (pv 1))) (a_cons (d_op op_sub o_sub (d_var 2 (pv 2)) (d_var 4 (pv 4))) a_nil)))))) a_nil))))
theorem dv_into_product {P : Program} {w : World} {K : PySem.W.Frag} {mg : Str → Option Value} {base : Heap} {f : Addr} {cdv : Value} {A : Around} {out : List Env} {s0 : Shared} {H : Hp} {E : XK} {b : Bas} {k : Nat} {ks : List Nat} (zb : Blts mg base) (hk : b.kp.map (·.1) = ks) (room : Room k (A.deeper (envOfC "into_product" (defScope s_into_product) s0.heap.objs.size f cdv))) (grd : (A.deeper (envOfC "into_product" (defScope s_into_product) s0.heap.objs.size f cdv)).guards = some []) {LC : Addr} (cl_LC : Cls K LC) (na_LC_factors : NoAttr K LC "factors") {sp_pairs_ahead : DSp} {k_pairs_ahead : Nat} (c_pairs_ahead : KnownP P w K mg base k_pairs_ahead "pairs_ahead" sp_pairs_ahead) (h_pairs_ahead : k_pairs_ahead ≤ k) {sp_factor_at : DSp} {k_factor_at : Nat} (c_factor_at : KnownP P w K mg base k_factor_at "factor_at" sp_factor_at) (h_factor_at : k_factor_at ≤ k) :
    PSsD (cxOf CX0 P w K mg base n_into_product "into_product" (defScope s_into_product) f cdv A out s0 H E).nox b (defBody s_into_product) (rd_into_product ks LC sp_pairs_ahead sp_factor_at) :=
  (ss_cons (s_set (i := 4) hk sc_into_product.nd rfl (.inl rfl) (d_op op_add3 o_add3 (d_ix ix_seq o_ix (d_var 2 (pv 2)) (d_c (.int 0) pe_int)) (d_ix ix_seq o_ix (d_var 3 (pv 3)) (d_c (.int 0) pe_int))))
      (ss_cons (s_set (i := 5) hk sc_into_product.nd rfl (.inl rfl) (d_op op_add3 o_add3 (d_op op_add3 o_add3 (d_callP hk c_pairs_ahead (room.mono h_pairs_ahead) grd rfl (a_cons (d_var 0 (pv 0)) (a_cons (d_var 1 (pv 1)) (a_cons (d_var 4 (pv 4)) (a_cons (d_ix ix_seq o_ix (d_var 2 (pv 2)) (d_c (.int 0) pe_int)) a_nil))))) (d_op op_mulA o_mulA (d_ix ix_seq o_ix (d_var 2 (pv 2)) (d_c (.int 1) pe_int)) (d_callP hk c_factor_at (room.mono h_factor_at) grd rfl (a_cons (d_fld cl_LC na_LC_factors (d_var 1 (pv 1))) (a_cons (d_ix ix_seq o_ix (d_var 3 (pv 3)) (d_c (.int 0) pe_int)) a_nil))))) (d_ix ix_seq o_ix (d_var 3 (pv 3)) (d_c (.int 1) pe_int))))
      (ss_one (s_ret hk (d_tup hk (a_cons (d_var 4 (pv 4)) (a_cons (d_var 5 (pv 5)) (a_cons (d_op op_add3 o_add3 (d_ix ix_seq o_ix (d_var 2 (pv 2)) (d_c (.int 2) pe_int)) (d_ix ix_seq o_ix (d_var 3 (pv 3)) (d_c (.int 2) pe_int))) a_nil))))))))
theorem dv_from_product {P : Program} {w : World} {K : PySem.W.Frag} {mg : Str → Option Value} {base : Heap} {f : Addr} {cdv : Value} {A : Around} {out : List Env} {s0 : Shared} {H : Hp} {E : XK} {b : Bas} {k : Nat} {ks : List Nat} (zb : Blts mg base) (hk : b.kp.map (·.1) = ks) (room : Room k (A.deeper (envOfC "from_product" (defScope s_from_product) s0.heap.objs.size f cdv))) (grd : (A.deeper (envOfC "from_product" (defScope s_from_product) s0.heap.objs.size f cdv)).guards = some []) {LC : Addr} (cl_LC : Cls K LC) (na_LC_factors : NoAttr K LC "factors") {sp_factor_at : DSp} {k_factor_at : Nat} (c_factor_at : KnownP P w K mg base k_factor_at "factor_at" sp_factor_at) (h_factor_at : k_factor_at ≤ k) {sp_pairs_ahead : DSp} {k_pairs_ahead : Nat} (c_pairs_ahead : KnownP P w K mg base k_pairs_ahead "pairs_ahead" sp_pairs_ahead) (h_pairs_ahead : k_pairs_ahead ≤ k) :
    PSsD (cxOf CX0 P w K mg base n_from_product "from_product" (defScope s_from_product) f cdv A out s0 H E).nox b (defBody s_from_product) (rd_from_product ks LC sp_factor_at sp_pairs_ahead) :=
  (ss_cons (s_unp hk (d_var 2 (pv 2)) (g_tup rfl (gs_cons (g_name (i := 3) hk sc_from_product.nd rfl (.inl rfl)) (gs_cons (g_name (i := 4) hk sc_from_product.nd rfl (.inl rfl)) (gs_cons (g_name (i := 5) hk sc_from_product.nd rfl (.inl rfl)) gs_nil)))))
      (ss_cons (s_set (i := 6) hk sc_from_product.nd rfl (.inl rfl) (d_c (.int 0) pe_int))
      (ss_cons (s_while PassesOwn.never (t_cmp op_ge o_ge (d_var 4 (pv 4)) (d_callP hk c_pairs_ahead (room.mono h_pairs_ahead) grd rfl (a_cons (d_var 0 (pv 0)) (a_cons (d_var 1 (pv 1)) (a_cons (d_var 3 (pv 3)) (a_cons (d_op op_add3 o_add3 (d_var 6 (pv 6)) (d_c (.int 1) pe_int)) a_nil))))) rfl) (ss_one (s_aug (i := 6) hk o_addN sc_from_product.nd rfl (.inl rfl) (d_c (.int 1) pe_int) ip_add)))
      (ss_cons (s_aug (i := 4) hk o_subN sc_from_product.nd rfl (.inl rfl) (d_callP hk c_pairs_ahead (room.mono h_pairs_ahead) grd rfl (a_cons (d_var 0 (pv 0)) (a_cons (d_var 1 (pv 1)) (a_cons (d_var 3 (pv 3)) (a_cons (d_var 6 (pv 6)) a_nil))))) ip_sub)
      (ss_cons (s_set (i := 7) hk sc_from_product.nd rfl (.inl rfl) (d_callP hk c_factor_at (room.mono h_factor_at) grd rfl (a_cons (d_fld cl_LC na_LC_factors (d_var 1 (pv 1))) (a_cons (d_op op_sub o_sub (d_var 3 (pv 3)) (d_var 6 (pv 6))) a_nil))))
      (ss_one (s_ret hk (d_tup hk (a_cons (d_tup hk (a_cons (d_var 6 (pv 6)) (a_cons (d_op op_fdivW o_div (d_var 4 (pv 4)) (d_var 7 (pv 7))) (a_cons (d_sl sl_any o_sl (d_var 5 (pv 5)) p_none (p_some (d_var 6 (pv 6)))) a_nil)))) (a_cons (d_tup hk (a_cons (d_op op_sub o_sub (d_var 3 (pv 3)) (d_var 6 (pv 6))) (a_cons (d_op op_mod o_mod (d_var 4 (pv 4)) (d_var 7 (pv 7))) (a_cons (d_sl sl_any o_sl (d_var 5 (pv 5)) (p_some (d_var 6 (pv 6))) p_none) a_nil)))) a_nil))))))))))
theorem dv_Layout___init__ {P : Program} {w : World} {K : PySem.W.Frag} {mg : Str → Option Value} {base : Heap} {f : Addr} {cdv : Value} {A : Around} {out : List Env} {s0 : Shared} {H : Hp} {E : XK} {b : Bas} {k : Nat} {ks : List Nat} (zb : Blts mg base) (hk : b.kp.map (·.1) = ks) (room : Room k (A.deeper (envOfC "Layout.__init__" (defScope s_Layout___init__) s0.heap.objs.size f cdv))) (grd : (A.deeper (envOfC "Layout.__init__" (defScope s_Layout___init__) s0.heap.objs.size f cdv)).guards = some []) {tk_MAX_DEGREE : Tok} (gl_MAX_DEGREE : mg "MAX_DEGREE" = some (.int (40) tk_MAX_DEGREE)) {LC : Addr} (cl_LC : Cls K LC) (na_LC_key : NoAttr K LC "key") (na_LC_factors : NoAttr K LC "factors") (na_LC_degree : NoAttr K LC "degree") {sp_trimmed : DSp} {k_trimmed : Nat} (c_trimmed : KnownP P w K mg base k_trimmed "trimmed" sp_trimmed) (h_trimmed : k_trimmed ≤ k) {sp_is_integer : DSp} {k_is_integer : Nat} (c_is_integer : KnownP P w K mg base k_is_integer "is_integer" sp_is_integer) (h_is_integer : k_is_integer ≤ k) :
    PSsD (cxOf CX0 P w K mg base n_Layout___init__ "Layout.__init__" (defScope s_Layout___init__) f cdv A out s0 H E).nox b (defBody s_Layout___init__) (rd_Layout___init__ ks LC sp_trimmed sp_is_integer) :=
  (ss_cons (s_if (t_w (tw_or (t_not (t_tr (d_isiT (d_var 1 (pv 1)) rfl zb.isinstance (pe_bltn (v := .ty "list") rfl zb.list bt_list rfl (by decide) (by decide)) (pe_bltn (v := .ty "tuple") rfl zb.tuple bt_tuple rfl (by decide) (by decide))))) (tw_or1 (t_not (t_tr (d_b (cr_all rfl) b_all rfl zb.all bt_all (a_cons (d_lc (own := [("one", 2)]) hk (by decide) rfl sc_Layout___init__.nd (i_seq hk (d_var 1 (pv 1))) (blk_ok (N := n_Layout___init__) (sc := defScope s_Layout___init__) (by decide +kernel)) (fun s H C cl fp => (g_name (i := 2) hk sc_Layout___init__.nd rfl (.inl rfl))) (fun s H C cl fp => ts_nil) (fun s H C cl fp => (d_and (d_callP hk c_is_integer (room.mono h_is_integer) grd rfl (a_cons (d_var 2 (pv 2)) a_nil)) (d_one (d_cmp op_ge o_ge (d_var 2 (pv 2)) (d_c (.int 0) pe_int) rfl))))) a_nil))))))) (ss_one s_never) ss_nil)
      (ss_cons (s_fld hk cl_LC na_LC_factors (pv 0) (d_callP hk c_trimmed (room.mono h_trimmed) grd rfl (a_cons (d_var 1 (pv 1)) a_nil)))
      (ss_cons (s_fld hk cl_LC na_LC_degree (pv 0) (d_op op_sub o_sub (d_b call_len b_len rfl zb.len bt_len (a_cons (d_fld cl_LC na_LC_factors (d_var 0 (pv 0))) a_nil)) (d_c (.int 1) pe_int)))
      (ss_cons (s_if (t_cmp op_gt o_gt (d_fld cl_LC na_LC_degree (d_var 0 (pv 0))) (d_globI rfl gl_MAX_DEGREE) rfl) (ss_one s_never) ss_nil)
      (ss_one (s_fld hk cl_LC na_LC_key (pv 0) (d_tup hk (a_cons (d_fld cl_LC na_LC_degree (d_var 0 (pv 0))) (a_cons (d_rev (d_fld cl_LC na_LC_factors (d_var 0 (pv 0)))) a_nil)))))))))
theorem dv_Layout___add__ {P : Program} {w : World} {K : PySem.W.Frag} {mg : Str → Option Value} {base : Heap} {f : Addr} {cdv : Value} {A : Around} {out : List Env} {s0 : Shared} {H : Hp} {E : XK} {b : Bas} {k : Nat} {ks : List Nat} (zb : Blts mg base) (hk : b.kp.map (·.1) = ks) (room : Room k (A.deeper (envOfC "Layout.__add__" (defScope s_Layout___add__) s0.heap.objs.size f cdv))) (grd : (A.deeper (envOfC "Layout.__add__" (defScope s_Layout___add__) s0.heap.objs.size f cdv)).guards = some []) {LC : Addr} (cl_LC : Cls K LC) (na_LC_factors : NoAttr K LC "factors") {sp_factors_of : DSp} {k_factors_of : Nat} (c_factors_of : KnownP P w K mg base k_factors_of "factors_of" sp_factors_of) (h_factors_of : k_factors_of ≤ k) {sp_added : DSp} {k_added : Nat} (c_added : KnownP P w K mg base k_added "added" sp_added) (h_added : k_added ≤ k) {sp_Layout : DSp} {k_Layout : Nat} (c_Layout : MkP P w K mg base k_Layout "Layout" LC sp_Layout) (h_Layout : k_Layout + 1 ≤ k) :
    PSsD (cxOf CX0 P w K mg base n_Layout___add__ "Layout.__add__" (defScope s_Layout___add__) f cdv A out s0 H E).nox b (defBody s_Layout___add__) (rd_Layout___add__ ks LC sp_factors_of sp_added sp_Layout) :=
  (ss_one (s_ret hk (d_make hk c_Layout (room.mono h_Layout) grd rfl (a_cons (d_callP hk c_added (room.mono h_added) grd rfl (a_cons (d_fld cl_LC na_LC_factors (d_var 0 (pv 0))) (a_cons (d_callP hk c_factors_of (room.mono h_factors_of) grd rfl (a_cons (d_var 1 (pv 1)) a_nil)) a_nil))) a_nil))))
theorem dv_Layout___mul__ {P : Program} {w : World} {K : PySem.W.Frag} {mg : Str → Option Value} {base : Heap} {f : Addr} {cdv : Value} {A : Around} {out : List Env} {s0 : Shared} {H : Hp} {E : XK} {b : Bas} {k : Nat} {ks : List Nat} (zb : Blts mg base) (hk : b.kp.map (·.1) = ks) (room : Room k (A.deeper (envOfC "Layout.__mul__" (defScope s_Layout___mul__) s0.heap.objs.size f cdv))) (grd : (A.deeper (envOfC "Layout.__mul__" (defScope s_Layout___mul__) s0.heap.objs.size f cdv)).guards = some []) {LC : Addr} (cl_LC : Cls K LC) (na_LC_factors : NoAttr K LC "factors") {sp_factors_of : DSp} {k_factors_of : Nat} (c_factors_of : KnownP P w K mg base k_factors_of "factors_of" sp_factors_of) (h_factors_of : k_factors_of ≤ k) {sp_multiplied : DSp} {k_multiplied : Nat} (c_multiplied : KnownP P w K mg base k_multiplied "multiplied" sp_multiplied) (h_multiplied : k_multiplied ≤ k) {sp_Layout : DSp} {k_Layout : Nat} (c_Layout : MkP P w K mg base k_Layout "Layout" LC sp_Layout) (h_Layout : k_Layout + 1 ≤ k) :
    PSsD (cxOf CX0 P w K mg base n_Layout___mul__ "Layout.__mul__" (defScope s_Layout___mul__) f cdv A out s0 H E).nox b (defBody s_Layout___mul__) (rd_Layout___mul__ ks LC sp_factors_of sp_multiplied sp_Layout) :=
  (ss_one (s_ret hk (d_make hk c_Layout (room.mono h_Layout) grd rfl (a_cons (d_callP hk c_multiplied (room.mono h_multiplied) grd rfl (a_cons (d_fld cl_LC na_LC_factors (d_var 0 (pv 0))) (a_cons (d_callP hk c_factors_of (room.mono h_factors_of) grd rfl (a_cons (d_var 1 (pv 1)) a_nil)) a_nil))) a_nil))))
theorem dv_Layout___getitem__ {P : Program} {w : World} {K : PySem.W.Frag} {mg : Str → Option Value} {base : Heap} {f : Addr} {cdv : Value} {A : Around} {out : List Env} {s0 : Shared} {H : Hp} {E : XK} {b : Bas} {k : Nat} {ks : List Nat} (zb : Blts mg base) (hk : b.kp.map (·.1) = ks) (room : Room k (A.deeper (envOfC "Layout.__getitem__" (defScope s_Layout___getitem__) s0.heap.objs.size f cdv))) (grd : (A.deeper (envOfC "Layout.__getitem__" (defScope s_Layout___getitem__) s0.heap.objs.size f cdv)).guards = some []) {LC : Addr} (cl_LC : Cls K LC) (na_LC_factors : NoAttr K LC "factors") :
    PSsD (cxOf CX0 P w K mg base n_Layout___getitem__ "Layout.__getitem__" (defScope s_Layout___getitem__) f cdv A out s0 H E).nox b (defBody s_Layout___getitem__) (rd_Layout___getitem__ ks LC) :=
  (ss_one (s_ret hk (d_if (t_chain op_le op_lt o_le o_lt (d_c (.int 0) pe_int) (d_var 1 (pv 1)) (d_b call_len b_len rfl zb.len bt_len (a_cons (d_fld cl_LC na_LC_factors (d_var 0 (pv 0))) a_nil))) (d_ix ix_seq o_ix (d_fld cl_LC na_LC_factors (d_var 0 (pv 0))) (d_var 1 (pv 1))) (d_c (.int 0) pe_int))))
theorem dv__law_mixed {P : Program} {w : World} {K : PySem.W.Frag} {mg : Str → Option Value} {base : Heap} {f : Addr} {cdv : Value} {A : Around} {out : List Env} {s0 : Shared} {H : Hp} {E : XK} {b : Bas} {k : Nat} {ks : List Nat} (zb : Blts mg base) (hk : b.kp.map (·.1) = ks) (room : Room k (A.deeper (envOfC "_law_mixed" (defScope s__law_mixed) s0.heap.objs.size f cdv))) (grd : (A.deeper (envOfC "_law_mixed" (defScope s__law_mixed) s0.heap.objs.size f cdv)).guards = some []) :
    PSsD (cxOf CX0 P w K mg base n__law_mixed "_law_mixed" (defScope s__law_mixed) f cdv A out s0 H E).nox b (defBody s__law_mixed) (rd__law_mixed ks) :=
  (ss_cons (s_set (i := 2) hk sc__law_mixed.nd rfl (.inl rfl) (d_c (.int 2305843009213693951) pe_int))
      (ss_cons (s_set (i := 3) hk sc__law_mixed.nd rfl (.inl rfl) (d_op op_mod o_mod (d_op op_add3 o_add3 (d_op op_add3 o_add3 (d_op op_mulA o_mulA (d_var 0 (pv 0)) (d_c (.int 1181783497276652981) pe_int)) (d_op op_mulA o_mulA (d_var 1 (pv 1)) (d_c (.int 2685821657736338717) pe_int))) (d_c (.int 41) pe_int)) (d_var 2 (pv 2))))
      (ss_cons (s_for PassesOwn.never rfl (i_range1 rfl zb.range (a_cons (d_c (.int 4) pe_int) a_nil)) (g_name (i := 4) hk sc__law_mixed.nd rfl (.inl rfl)) (ss_one (s_set (i := 3) hk sc__law_mixed.nd rfl (.inl rfl) (d_op op_mod o_mod (d_op op_add3 o_add3 (d_op op_add3 o_add3 (d_op op_add3 o_add3 (d_op op_mulA o_mulA (d_var 3 (pv 3)) (d_var 3 (pv 3))) (d_op op_mulA o_mulA (d_c (.int 29) pe_int) (d_var 3 (pv 3)))) (d_op op_mulA o_mulA (d_c (.int 4001) pe_int) (d_var 4 (pv 4)))) (d_var 1 (pv 1))) (d_var 2 (pv 2))))))
      (ss_one (s_ret hk (d_op op_add3 o_add3 (d_op op_mulA o_mulA (d_var 3 (pv 3)) (d_var 2 (pv 2))) (d_op op_mod o_mod (d_op op_add3 o_add3 (d_op op_mulA o_mulA (d_var 3 (pv 3)) (d_c (.int 48271) pe_int)) (d_var 1 (pv 1))) (d_var 2 (pv 2)))))))))
theorem dv__law_deck_of {P : Program} {w : World} {K : PySem.W.Frag} {mg : Str → Option Value} {base : Heap} {f : Addr} {cdv : Value} {A : Around} {out : List Env} {s0 : Shared} {H : Hp} {E : XK} {b : Bas} {k : Nat} {ks : List Nat} (zb : Blts mg base) (hk : b.kp.map (·.1) = ks) (room : Room k (A.deeper (envOfC "_law_deck_of" (defScope s__law_deck_of) s0.heap.objs.size f cdv))) (grd : (A.deeper (envOfC "_law_deck_of" (defScope s__law_deck_of) s0.heap.objs.size f cdv)).guards = some []) :
    PSsD (cxOf CX0 P w K mg base n__law_deck_of "_law_deck_of" (defScope s__law_deck_of) f cdv A out s0 H E).nox b (defBody s__law_deck_of) (rd__law_deck_of ks) :=
  (ss_cons (s_setLc (i := 2) (own := [("cell", 1)]) hk (by decide) rfl sc__law_deck_of.nd rfl rfl rfl (i_seq hk (d_sl sl_any o_sl (d_var 0 (pv 0)) p_none (p_some (d_c (.int 16) pe_int)))) (blk_ok (N := n__law_deck_of) (sc := defScope s__law_deck_of) (by decide +kernel)) (fun s H C cl fp => (g_name (i := 1) hk sc__law_deck_of.nd rfl (.inl rfl))) (fun s H C cl fp => ts_nil) (fun s H C cl fp => (d_b call_abs b_abs rfl zb.abs bt_abs (a_cons (d_var 1 (pv 1)) a_nil))))
      (ss_cons (s_for PassesOwn.never rfl (i_enum hk rfl zb.enumerate (a_cons (d_sl sl_any o_sl (d_var 0 (pv 0)) (p_some (d_c (.int 16) pe_int)) (p_some (d_c (.int 63) pe_int))) a_nil)) (g_tup rfl (gs_cons (g_name (i := 3) hk sc__law_deck_of.nd rfl (.inl rfl)) (gs_cons (g_name (i := 1) hk sc__law_deck_of.nd rfl (.inl rfl)) gs_nil))) (ss_one (s_put (i := 2) hk (pv 2) (d_op op_mod o_mod (d_var 3 (pv 3)) (d_c (.int 16) pe_int)) (d_op op_add3 o_add3 (d_ix ix_seq o_ix (d_var 2 (pv 2)) (d_op op_mod o_mod (d_var 3 (pv 3)) (d_c (.int 16) pe_int))) (d_b call_abs b_abs rfl zb.abs bt_abs (a_cons (d_var 1 (pv 1)) a_nil))))))
      (ss_one (s_ret hk (d_lst hk (a_cons (d_var 2 (pv 2)) (a_cons (d_c (.int 0) pe_int) (a_cons (d_c (.int 0) pe_int) (a_cons (d_c (.int 0) pe_int) a_nil)))))))))
theorem dv__law_below {P : Program} {w : World} {K : PySem.W.Frag} {mg : Str → Option Value} {base : Heap} {f : Addr} {cdv : Value} {A : Around} {out : List Env} {s0 : Shared} {H : Hp} {E : XK} {b : Bas} {k : Nat} {ks : List Nat} (zb : Blts mg base) (hk : b.kp.map (·.1) = ks) (room : Room k (A.deeper (envOfC "_law_below" (defScope s__law_below) s0.heap.objs.size f cdv))) (grd : (A.deeper (envOfC "_law_below" (defScope s__law_below) s0.heap.objs.size f cdv)).guards = some []) {sp__law_mixed : DSp} {k__law_mixed : Nat} (c__law_mixed : KnownP P w K mg base k__law_mixed "_law_mixed" sp__law_mixed) (h__law_mixed : k__law_mixed ≤ k) :
    PSsD (cxOf CX0 P w K mg base n__law_below "_law_below" (defScope s__law_below) f cdv A out s0 H E).nox b (defBody s__law_below) (rd__law_below ks sp__law_mixed) :=
  (ss_cons (s_if (t_cmp op_lt o_lt (d_ix ix_seq o_ix (d_var 0 (pv 0)) (d_c (.int 3) pe_int)) (d_var 1 (pv 1)) rfl) (ss_cons (s_par2 (i := 2) (j := 3) hk rfl sc__law_below.nd rfl rfl (by decide) rfl rfl (a_cons (d_ix ix_seq o_ix (d_var 0 (pv 0)) (d_c (.int 0) pe_int)) (a_cons (d_ix ix_seq o_ix (d_var 0 (pv 0)) (d_c (.int 1) pe_int)) a_nil)) rfl)
      (ss_cons (s_set (i := 4) hk sc__law_below.nd rfl (.inl rfl) (d_if (t_cmp (op_neA (u64 room)) o_eqA (d_var 2 (pv 2)) (d_lst hk a_nil) rfl) (d_ix ix_seq o_ix (d_var 2 (pv 2)) (d_op op_mod o_mod (d_var 3 (pv 3)) (d_b call_len b_len rfl zb.len bt_len (a_cons (d_var 2 (pv 2)) a_nil)))) (d_c (.int 0) pe_int)))
      (ss_cons (s_if (t_w (tw_or (t_cmp op_ge o_ge (d_var 3 (pv 3)) (d_b call_len b_len rfl zb.len bt_len (a_cons (d_var 2 (pv 2)) a_nil)) rfl) (tw_or1 (t_cmp op_lt o_lt (d_var 4 (pv 4)) (d_op op_pow o_pow (d_c (.int 10) pe_int) (d_c (.int 16) pe_int)) rfl)))) (ss_one (s_set (i := 4) hk sc__law_below.nd rfl (.inl rfl) (d_callP hk c__law_mixed (room.mono h__law_mixed) grd rfl (a_cons (d_op op_mod o_mod (d_ty call_int1 b_int rfl zb.int bt_int (a_cons (d_var 4 (pv 4)) a_nil)) (d_c (.int 998244353) pe_int)) (a_cons (d_var 3 (pv 3)) a_nil))))) ss_nil)
      (ss_cons (s_put (i := 0) hk (pv 0) (d_c (.int 1) pe_int) (d_op op_add3 o_add3 (d_var 3 (pv 3)) (d_c (.int 1) pe_int)))
      (ss_cons (s_put (i := 0) hk (pv 0) (d_c (.int 2) pe_int) (d_var 4 (pv 4)))
      (ss_one (s_put (i := 0) hk (pv 0) (d_c (.int 3) pe_int) (d_var 4 (pv 4))))))))) ss_nil)
      (ss_cons (s_set (i := 5) hk sc__law_below.nd rfl (.inl rfl) (d_op op_mod o_mod (d_ty call_int1 b_int rfl zb.int bt_int (a_cons (d_ix ix_seq o_ix (d_var 0 (pv 0)) (d_c (.int 2) pe_int)) a_nil)) (d_var 1 (pv 1))))
      (ss_cons (s_put (i := 0) hk (pv 0) (d_c (.int 2) pe_int) (d_op op_fdivW o_div (d_ix ix_seq o_ix (d_var 0 (pv 0)) (d_c (.int 2) pe_int)) (d_var 1 (pv 1))))
      (ss_cons (s_put (i := 0) hk (pv 0) (d_c (.int 3) pe_int) (d_op op_fdivW o_div (d_ix ix_seq o_ix (d_var 0 (pv 0)) (d_c (.int 3) pe_int)) (d_var 1 (pv 1))))
      (ss_one (s_ret hk (d_var 5 (pv 5))))))))
theorem dv__law_pick {P : Program} {w : World} {K : PySem.W.Frag} {mg : Str → Option Value} {base : Heap} {f : Addr} {cdv : Value} {A : Around} {out : List Env} {s0 : Shared} {H : Hp} {E : XK} {b : Bas} {k : Nat} {ks : List Nat} (zb : Blts mg base) (hk : b.kp.map (·.1) = ks) (room : Room k (A.deeper (envOfC "_law_pick" (defScope s__law_pick) s0.heap.objs.size f cdv))) (grd : (A.deeper (envOfC "_law_pick" (defScope s__law_pick) s0.heap.objs.size f cdv)).guards = some []) {sp__law_below : DSp} {k__law_below : Nat} (c__law_below : KnownP P w K mg base k__law_below "_law_below" sp__law_below) (h__law_below : k__law_below ≤ k) :
    PSsD (cxOf CX0 P w K mg base n__law_pick "_law_pick" (defScope s__law_pick) f cdv A out s0 H E).nox b (defBody s__law_pick) (rd__law_pick ks sp__law_below) :=
  (ss_one (s_ret hk (d_ix ix_seq o_ix (d_var 1 (pv 1)) (d_callRP hk c__law_below (room.mono h__law_below) grd rfl (a_cons (d_var 0 (pv 0)) (a_cons (d_b call_len b_len rfl zb.len bt_len (a_cons (d_var 1 (pv 1)) a_nil)) a_nil))))))
theorem dv__law_some_factors {P : Program} {w : World} {K : PySem.W.Frag} {mg : Str → Option Value} {base : Heap} {f : Addr} {cdv : Value} {A : Around} {out : List Env} {s0 : Shared} {H : Hp} {E : XK} {b : Bas} {k : Nat} {ks : List Nat} (zb : Blts mg base) (hk : b.kp.map (·.1) = ks) (room : Room k (A.deeper (envOfC "_law_some_factors" (defScope s__law_some_factors) s0.heap.objs.size f cdv))) (grd : (A.deeper (envOfC "_law_some_factors" (defScope s__law_some_factors) s0.heap.objs.size f cdv)).guards = some []) {sp__law_below : DSp} {k__law_below : Nat} (c__law_below : KnownP P w K mg base k__law_below "_law_below" sp__law_below) (h__law_below : k__law_below ≤ k) {sp__law_pick : DSp} {k__law_pick : Nat} (c__law_pick : KnownP P w K mg base k__law_pick "_law_pick" sp__law_pick) (h__law_pick : k__law_pick ≤ k) :
    PSsD (cxOf CX0 P w K mg base n__law_some_factors "_law_some_factors" (defScope s__law_some_factors) f cdv A out s0 H E).nox b (defBody s__law_some_factors) (rd__law_some_factors ks sp__law_below sp__law_pick) :=
  (ss_cons (s_setLc (i := 3) (own := [("k", 4)]) hk (by decide) rfl sc__law_some_factors.nd rfl rfl rfl (i_range1 rfl zb.range (a_cons (d_op op_add3 o_add3 (d_c (.int 1) pe_int) (d_callRP hk c__law_below (room.mono h__law_below) grd rfl (a_cons (d_var 0 (pv 0)) (a_cons (d_op op_add3 o_add3 (d_var 1 (pv 1)) (d_c (.int 1) pe_int)) a_nil)))) a_nil)) (blk_ok (N := n__law_some_factors) (sc := defScope s__law_some_factors) (by decide +kernel)) (fun s H C cl fp => (g_name (i := 4) hk sc__law_some_factors.nd rfl (.inl rfl))) (fun s H C cl fp => ts_nil) (fun s H C cl fp => (d_callRP hk c__law_pick (room.mono h__law_pick) grd rfl (a_cons (d_var 0 (pv 0)) (a_cons (d_lst hk (a_cons (d_c (.int 0) pe_int) (a_cons (d_c (.int 0) pe_int) (a_cons (d_c (.int 1) pe_int) (a_cons (d_c (.int 1) pe_int) (a_cons (d_callRP hk c__law_below (room.mono h__law_below) grd rfl (a_cons (d_var 0 (pv 0)) (a_cons (d_op op_add3 o_add3 (d_var 2 (pv 2)) (d_c (.int 1) pe_int)) a_nil))) a_nil)))))) a_nil)))))
      (ss_cons (s_put (i := 3) hk (pv 3) (d_un un_neg o_neg (d_c (.int 1) pe_int)) (d_if (t_cmp op_lt o_lt (d_ix ix_seq o_ix (d_var 3 (pv 3)) (d_un un_neg o_neg (d_c (.int 1) pe_int))) (d_var 2 (pv 2)) rfl) (d_op op_add3 o_add3 (d_ix ix_seq o_ix (d_var 3 (pv 3)) (d_un un_neg o_neg (d_c (.int 1) pe_int))) (d_c (.int 1) pe_int)) (d_ix ix_seq o_ix (d_var 3 (pv 3)) (d_un un_neg o_neg (d_c (.int 1) pe_int)))))
      (ss_one (s_ret hk (d_var 3 (pv 3))))))
theorem dv__law_marks_of {P : Program} {w : World} {K : PySem.W.Frag} {mg : Str → Option Value} {base : Heap} {f : Addr} {cdv : Value} {A : Around} {out : List Env} {s0 : Shared} {H : Hp} {E : XK} {b : Bas} {k : Nat} {ks : List Nat} (zb : Blts mg base) (hk : b.kp.map (·.1) = ks) (room : Room k (A.deeper (envOfC "_law_marks_of" (defScope s__law_marks_of) s0.heap.objs.size f cdv))) (grd : (A.deeper (envOfC "_law_marks_of" (defScope s__law_marks_of) s0.heap.objs.size f cdv)).guards = some []) :
    PSsD (cxOf CX0 P w K mg base n__law_marks_of "_law_marks_of" (defScope s__law_marks_of) f cdv A out s0 H E).nox b (defBody s__law_marks_of) (rd__law_marks_of ks) :=
  (ss_one (s_ret hk (d_ty call_tupP b_tupOf rfl zb.tuple bt_tuple (a_cons (d_lc (own := [("place", 2)]) hk (by decide) rfl sc__law_marks_of.nd (i_range1 rfl zb.range (a_cons (d_var 0 (pv 0)) a_nil)) (blk_ok (N := n__law_marks_of) (sc := defScope s__law_marks_of) (by decide +kernel)) (fun s H C cl fp => (g_name (i := 2) hk sc__law_marks_of.nd rfl (.inl rfl))) (fun s H C cl fp => ts_nil) (fun s H C cl fp => (d_tup hk (a_cons (d_op op_add3 o_add3 (d_var 1 (pv 1)) (d_ty call_str_int b_str rfl zb.str bt_str (a_cons (d_var 2 (pv 2)) a_nil))) a_nil)))) a_nil))))
theorem dv__law_all {P : Program} {w : World} {K : PySem.W.Frag} {mg : Str → Option Value} {base : Heap} {f : Addr} {cdv : Value} {A : Around} {out : List Env} {s0 : Shared} {H : Hp} {E : XK} {b : Bas} {k : Nat} {ks : List Nat} (zb : Blts mg base) (hk : b.kp.map (·.1) = ks) (room : Room k (A.deeper (envOfC "_law_all" (defScope s__law_all) s0.heap.objs.size f cdv))) (grd : (A.deeper (envOfC "_law_all" (defScope s__law_all) s0.heap.objs.size f cdv)).guards = some []) {sp__law_marks_of : DSp} {k__law_marks_of : Nat} (c__law_marks_of : KnownP P w K mg base k__law_marks_of "_law_marks_of" sp__law_marks_of) (h__law_marks_of : k__law_marks_of ≤ k) :
    PSsD (cxOf CX0 P w K mg base n__law_all "_law_all" (defScope s__law_all) f cdv A out s0 H E).nox b (defBody s__law_all) (rd__law_all ks sp__law_marks_of) :=
  (ss_cons (s_set (i := 2) hk sc__law_all.nd rfl (.inl rfl) (d_lst hk a_nil))
      (ss_cons (s_for PassesOwn.never rfl (i_enum hk rfl zb.enumerate (a_cons (d_var 0 (pv 0)) a_nil)) (g_tup rfl (gs_cons (g_name (i := 3) hk sc__law_all.nd rfl (.inr rfl)) (gs_cons (g_name (i := 4) hk sc__law_all.nd rfl (.inl rfl)) gs_nil))) (ss_one (s_expr (d_mut (i := 2) hk m_extend mt_extA F.plainAttrs_list F.slot_list_extend F.type_list_extend (pv 2) (a_cons (d_lc (own := [("index", 5)]) hk (by decide) rfl sc__law_all.nd (i_range1 rfl zb.range (a_cons (d_var 4 (pv 4)) a_nil)) (blk_ok (N := n__law_all) (sc := defScope s__law_all) (by decide +kernel)) (fun s H C cl fp => (g_name (i := 5) hk sc__law_all.nd rfl (.inl rfl))) (fun s H C cl fp => ts_nil) (fun s H C cl fp => (d_tup hk (a_cons (d_var 3 (pv 3)) (a_cons (d_var 5 (pv 5)) (a_cons (d_callP hk c__law_marks_of (room.mono h__law_marks_of) grd rfl (a_cons (d_var 3 (pv 3)) (a_cons (d_var 1 (pv 1)) a_nil))) a_nil)))))) a_nil)))))
      (ss_one (s_ret hk (d_var 2 (pv 2))))))
theorem dv__law_factor_at {P : Program} {w : World} {K : PySem.W.Frag} {mg : Str → Option Value} {base : Heap} {f : Addr} {cdv : Value} {A : Around} {out : List Env} {s0 : Shared} {H : Hp} {E : XK} {b : Bas} {k : Nat} {ks : List Nat} (zb : Blts mg base) (hk : b.kp.map (·.1) = ks) (room : Room k (A.deeper (envOfC "_law_factor_at" (defScope s__law_factor_at) s0.heap.objs.size f cdv))) (grd : (A.deeper (envOfC "_law_factor_at" (defScope s__law_factor_at) s0.heap.objs.size f cdv)).guards = some []) :
    PSsD (cxOf CX0 P w K mg base n__law_factor_at "_law_factor_at" (defScope s__law_factor_at) f cdv A out s0 H E).nox b (defBody s__law_factor_at) (rd__law_factor_at ks) :=
  (ss_one (s_ret hk (d_if (t_chain op_le op_lt o_le o_lt (d_c (.int 0) pe_int) (d_var 1 (pv 1)) (d_b call_len b_len rfl zb.len bt_len (a_cons (d_var 0 (pv 0)) a_nil))) (d_ix ix_seq o_ix (d_var 0 (pv 0)) (d_var 1 (pv 1))) (d_c (.int 0) pe_int))))
theorem dv__law_sum_right {P : Program} {w : World} {K : PySem.W.Frag} {mg : Str → Option Value} {base : Heap} {f : Addr} {cdv : Value} {A : Around} {out : List Env} {s0 : Shared} {H : Hp} {E : XK} {b : Bas} {k : Nat} {ks : List Nat} (zb : Blts mg base) (hk : b.kp.map (·.1) = ks) (room : Room k (A.deeper (envOfC "_law_sum_right" (defScope s__law_sum_right) s0.heap.objs.size f cdv))) (grd : (A.deeper (envOfC "_law_sum_right" (defScope s__law_sum_right) s0.heap.objs.size f cdv)).guards = some []) {LC : Addr} {sp_from_sum : DSp} {k_from_sum : Nat} (c_from_sum : KnownP P w K mg base k_from_sum "from_sum" sp_from_sum) (h_from_sum : k_from_sum ≤ k) {sp_into_sum : DSp} {k_into_sum : Nat} (c_into_sum : KnownP P w K mg base k_into_sum "into_sum" sp_into_sum) (h_into_sum : k_into_sum ≤ k) {sp__law_factor_at : DSp} {k__law_factor_at : Nat} (c__law_factor_at : KnownP P w K mg base k__law_factor_at "_law_factor_at" sp__law_factor_at) (h__law_factor_at : k__law_factor_at ≤ k) {sp__law_marks_of : DSp} {k__law_marks_of : Nat} (c__law_marks_of : KnownP P w K mg base k__law_marks_of "_law_marks_of" sp__law_marks_of) (h__law_marks_of : k__law_marks_of ≤ k) {sp_Layout___add__ : DSp} {k_Layout___add__ : Nat} (b_Layout___add__ : BinP P w K mg base k_Layout___add__ LC "__add__" sp_Layout___add__) (h_Layout___add__ : k_Layout___add__ ≤ k) {sp_Layout___getitem__ : DSp} {k_Layout___getitem__ : Nat} (o_Layout___getitem__ : OneP P w K mg base k_Layout___getitem__ LC "__getitem__" sp_Layout___getitem__) (h_Layout___getitem__ : k_Layout___getitem__ + 1 ≤ k) :
    PSsD (cxOf CX0 P w K mg base n__law_sum_right "_law_sum_right" (defScope s__law_sum_right) f cdv A out s0 H E).nox b (defBody s__law_sum_right) (rd__law_sum_right ks LC sp_from_sum sp_into_sum sp__law_factor_at sp__law_marks_of sp_Layout___add__ sp_Layout___getitem__) :=
  (ss_cons (s_set (i := 4) hk sc__law_sum_right.nd rfl (.inl rfl) (d_binN dn_add hk b_Layout___add__ (room.mono h_Layout___add__) grd (d_var 2 (pv 2)) (d_var 3 (pv 3))))
      (ss_cons (s_set (i := 5) hk sc__law_sum_right.nd rfl (.inl rfl) (d_lst hk a_nil))
      (ss_cons (s_for PassesOwn.never rfl (i_range1 rfl zb.range (a_cons (d_b (call_maxA rfl) b_max rfl zb.max bt_max (a_cons (d_b call_len b_len rfl zb.len bt_len (a_cons (d_var 0 (pv 0)) a_nil)) (a_cons (d_b call_len b_len rfl zb.len bt_len (a_cons (d_var 1 (pv 1)) a_nil)) a_nil))) a_nil)) (g_name (i := 6) hk sc__law_sum_right.nd rfl (.inr rfl)) (ss_cons (s_set (i := 7) hk sc__law_sum_right.nd rfl (.inr rfl) (d_callP hk c__law_marks_of (room.mono h__law_marks_of) grd rfl (a_cons (d_var 6 (pv 6)) (a_cons (d_c (.str "a") pe_str) a_nil))))
      (ss_cons (s_setLc (i := 9) (own := [("index", 8)]) hk (by decide) rfl sc__law_sum_right.nd rfl rfl rfl (i_range1 rfl zb.range (a_cons (d_callP hk c__law_factor_at (room.mono h__law_factor_at) grd rfl (a_cons (d_var 0 (pv 0)) (a_cons (d_var 6 (pv 6)) a_nil))) a_nil)) (blk_ok (N := n__law_sum_right) (sc := defScope s__law_sum_right) (by decide +kernel)) (fun s H C cl fp => (g_name (i := 8) hk sc__law_sum_right.nd rfl (.inl rfl))) (fun s H C cl fp => ts_nil) (fun s H C cl fp => (d_tup hk (a_cons (d_c (.int 0) pe_int) (a_cons (d_tup hk (a_cons (d_var 6 (pv 6)) (a_cons (d_var 8 (pv 8)) (a_cons (d_var 7 (pv 7)) a_nil)))) a_nil)))))
      (ss_cons (s_expr (d_mut (i := 9) hk m_extend mt_extA F.plainAttrs_list F.slot_list_extend F.type_list_extend (pv 9) (a_cons (d_lc (own := [("index", 8)]) hk (by decide) rfl sc__law_sum_right.nd (i_range1 rfl zb.range (a_cons (d_callP hk c__law_factor_at (room.mono h__law_factor_at) grd rfl (a_cons (d_var 1 (pv 1)) (a_cons (d_var 6 (pv 6)) a_nil))) a_nil)) (blk_ok (N := n__law_sum_right) (sc := defScope s__law_sum_right) (by decide +kernel)) (fun s H C cl fp => (g_name (i := 8) hk sc__law_sum_right.nd rfl (.inl rfl))) (fun s H C cl fp => ts_nil) (fun s H C cl fp => (d_tup hk (a_cons (d_c (.int 1) pe_int) (a_cons (d_tup hk (a_cons (d_var 6 (pv 6)) (a_cons (d_var 8 (pv 8)) (a_cons (d_var 7 (pv 7)) a_nil)))) a_nil))))) a_nil)))
      (ss_cons (s_if (t_cmp (op_neA (u64 room)) o_eqA (d_ixO hk o_Layout___getitem__ (room.mono h_Layout___getitem__) grd (d_var 4 (pv 4)) (d_var 6 (pv 6))) (d_b call_len b_len rfl zb.len bt_len (a_cons (d_var 9 (pv 9)) a_nil)) rfl) (ss_one (s_ret hk (d_c (.bl false) pe_bl))) ss_nil)
      (ss_cons (s_for PassesOwn.never rfl (i_enum hk rfl zb.enumerate (a_cons (d_var 9 (pv 9)) a_nil)) (g_tup rfl (gs_cons (g_name (i := 8) hk sc__law_sum_right.nd rfl (.inl rfl)) (gs_cons (g_name (i := 10) hk sc__law_sum_right.nd rfl (.inl rfl)) gs_nil))) (ss_cons (s_if (t_cmp (op_neA (u64 room)) o_eqA (d_callP hk c_into_sum (room.mono h_into_sum) grd rfl (a_cons (d_var 2 (pv 2)) (a_cons (d_var 3 (pv 3)) (a_cons (d_ix ix_seq o_ix (d_var 10 (pv 10)) (d_c (.int 0) pe_int)) (a_cons (d_ix ix_seq o_ix (d_var 10 (pv 10)) (d_c (.int 1) pe_int)) a_nil))))) (d_tup hk (a_cons (d_var 6 (pv 6)) (a_cons (d_var 8 (pv 8)) (a_cons (d_var 7 (pv 7)) a_nil)))) rfl) (ss_one (s_ret hk (d_c (.bl false) pe_bl))) ss_nil)
      (ss_one (s_if (t_cmp (op_neA (u64 room)) o_eqA (d_callP hk c_from_sum (room.mono h_from_sum) grd rfl (a_cons (d_var 2 (pv 2)) (a_cons (d_var 3 (pv 3)) (a_cons (d_tup hk (a_cons (d_var 6 (pv 6)) (a_cons (d_var 8 (pv 8)) (a_cons (d_var 7 (pv 7)) a_nil)))) a_nil)))) (d_var 10 (pv 10)) rfl) (ss_one (s_ret hk (d_c (.bl false) pe_bl))) ss_nil))))
      (ss_one (s_expr (d_mut (i := 5) hk m_append mt_append F.plainAttrs_list F.slot_list_append F.type_list_append (pv 5) (a_cons (d_b call_len b_len rfl zb.len bt_len (a_cons (d_var 9 (pv 9)) a_nil)) a_nil))))))))))
      (ss_one (s_ret hk (d_cmp (op_eqA (u64 room)) o_eqA (d_b (cr_sum rfl) b_sum rfl zb.sum bt_sum (a_cons (d_var 5 (pv 5)) a_nil)) (d_op op_add3 o_add3 (d_b (cr_sum rfl) b_sum rfl zb.sum bt_sum (a_cons (d_var 0 (pv 0)) a_nil)) (d_b (cr_sum rfl) b_sum rfl zb.sum bt_sum (a_cons (d_var 1 (pv 1)) a_nil))) rfl))))))
theorem dv__law_product_right {P : Program} {w : World} {K : PySem.W.Frag} {mg : Str → Option Value} {base : Heap} {f : Addr} {cdv : Value} {A : Around} {out : List Env} {s0 : Shared} {H : Hp} {E : XK} {b : Bas} {k : Nat} {ks : List Nat} (zb : Blts mg base) (hk : b.kp.map (·.1) = ks) (room : Room k (A.deeper (envOfC "_law_product_right" (defScope s__law_product_right) s0.heap.objs.size f cdv))) (grd : (A.deeper (envOfC "_law_product_right" (defScope s__law_product_right) s0.heap.objs.size f cdv)).guards = some []) {LC : Addr} {sp_into_product : DSp} {k_into_product : Nat} (c_into_product : KnownP P w K mg base k_into_product "into_product" sp_into_product) (h_into_product : k_into_product ≤ k) {sp_from_product : DSp} {k_from_product : Nat} (c_from_product : KnownP P w K mg base k_from_product "from_product" sp_from_product) (h_from_product : k_from_product ≤ k) {sp__law_all : DSp} {k__law_all : Nat} (c__law_all : KnownP P w K mg base k__law_all "_law_all" sp__law_all) (h__law_all : k__law_all ≤ k) {sp_Layout___mul__ : DSp} {k_Layout___mul__ : Nat} (b_Layout___mul__ : BinP P w K mg base k_Layout___mul__ LC "__mul__" sp_Layout___mul__) (h_Layout___mul__ : k_Layout___mul__ ≤ k) {sp_Layout___getitem__ : DSp} {k_Layout___getitem__ : Nat} (o_Layout___getitem__ : OneP P w K mg base k_Layout___getitem__ LC "__getitem__" sp_Layout___getitem__) (h_Layout___getitem__ : k_Layout___getitem__ + 1 ≤ k) :
    PSsD (cxOf CX0 P w K mg base n__law_product_right "_law_product_right" (defScope s__law_product_right) f cdv A out s0 H E).nox b (defBody s__law_product_right) (rd__law_product_right ks LC sp_into_product sp_from_product sp__law_all sp_Layout___mul__ sp_Layout___getitem__) :=
  (ss_cons (s_set (i := 4) hk sc__law_product_right.nd rfl (.inl rfl) (d_binN dn_mul hk b_Layout___mul__ (room.mono h_Layout___mul__) grd (d_var 2 (pv 2)) (d_var 3 (pv 3))))
      (ss_cons (s_for PassesOwn.never rfl (i_range1 rfl zb.range (a_cons (d_op op_add3 o_add3 (d_b call_len b_len rfl zb.len bt_len (a_cons (d_var 0 (pv 0)) a_nil)) (d_b call_len b_len rfl zb.len bt_len (a_cons (d_var 1 (pv 1)) a_nil))) a_nil)) (g_name (i := 5) hk sc__law_product_right.nd rfl (.inr rfl)) (ss_cons (s_set (i := 6) hk sc__law_product_right.nd rfl (.inl rfl) (d_lst hk a_nil))
      (ss_cons (s_for PassesOwn.never rfl (i_seq hk (d_callP hk c__law_all (room.mono h__law_all) grd rfl (a_cons (d_var 0 (pv 0)) (a_cons (d_c (.str "a") pe_str) a_nil)))) (g_name (i := 7) hk sc__law_product_right.nd rfl (.inr rfl)) (ss_one (s_for PassesOwn.never rfl (i_seq hk (d_lc (own := [("pair", 8)]) hk (by decide) rfl sc__law_product_right.nd (i_seq hk (d_callP hk c__law_all (room.mono h__law_all) grd rfl (a_cons (d_var 1 (pv 1)) (a_cons (d_c (.str "b") pe_str) a_nil)))) (blk_ok (N := n__law_product_right) (sc := defScope s__law_product_right) (by decide +kernel)) (fun s H C cl fp => (g_name (i := 8) hk sc__law_product_right.nd rfl (.inl rfl))) (fun s H C cl fp => (ts_one (t_cmp (op_eqA (u64 room)) o_eqA (d_ix ix_seq o_ix (d_var 8 (pv 8)) (d_c (.int 0) pe_int)) (d_op op_sub o_sub (d_var 5 (pv 5)) (d_ix ix_seq o_ix (d_var 7 (pv 7)) (d_c (.int 0) pe_int))) rfl))) (fun s H C cl fp => (d_var 8 (pv 8))))) (g_name (i := 9) hk sc__law_product_right.nd rfl (.inl rfl)) (ss_one (s_expr (d_mut (i := 6) hk m_append mt_append F.plainAttrs_list F.slot_list_append F.type_list_append (pv 6) (a_cons (d_tup hk (a_cons (d_var 7 (pv 7)) (a_cons (d_var 9 (pv 9)) a_nil))) a_nil)))))))
      (ss_cons (s_if (t_cmp (op_neA (u64 room)) o_eqA (d_ixO hk o_Layout___getitem__ (room.mono h_Layout___getitem__) grd (d_var 4 (pv 4)) (d_var 5 (pv 5))) (d_b call_len b_len rfl zb.len bt_len (a_cons (d_var 6 (pv 6)) a_nil)) rfl) (ss_one (s_ret hk (d_c (.bl false) pe_bl))) ss_nil)
      (ss_one (s_for PassesOwn.never rfl (i_enum hk rfl zb.enumerate (a_cons (d_var 6 (pv 6)) a_nil)) (g_tup rfl (gs_cons (g_name (i := 10) hk sc__law_product_right.nd rfl (.inl rfl)) (gs_cons (g_name (i := 8) hk sc__law_product_right.nd rfl (.inl rfl)) gs_nil))) (ss_cons (s_set (i := 11) hk sc__law_product_right.nd rfl (.inl rfl) (d_tup hk (a_cons (d_var 5 (pv 5)) (a_cons (d_var 10 (pv 10)) (a_cons (d_op op_add3 o_add3 (d_ix ix_seq o_ix (d_ix ix_seq o_ix (d_var 8 (pv 8)) (d_c (.int 0) pe_int)) (d_c (.int 2) pe_int)) (d_ix ix_seq o_ix (d_ix ix_seq o_ix (d_var 8 (pv 8)) (d_c (.int 1) pe_int)) (d_c (.int 2) pe_int))) a_nil)))))
      (ss_one (s_if (t_w (tw_or (t_cmp (op_neA (u64 room)) o_eqA (d_callP hk c_into_product (room.mono h_into_product) grd rfl (a_cons (d_var 2 (pv 2)) (a_cons (d_var 3 (pv 3)) (a_cons (d_ix ix_seq o_ix (d_var 8 (pv 8)) (d_c (.int 0) pe_int)) (a_cons (d_ix ix_seq o_ix (d_var 8 (pv 8)) (d_c (.int 1) pe_int)) a_nil))))) (d_var 11 (pv 11)) rfl) (tw_or1 (t_cmp (op_neA (u64 room)) o_eqA (d_callP hk c_from_product (room.mono h_from_product) grd rfl (a_cons (d_var 2 (pv 2)) (a_cons (d_var 3 (pv 3)) (a_cons (d_var 11 (pv 11)) a_nil)))) (d_var 8 (pv 8)) rfl)))) (ss_one (s_ret hk (d_c (.bl false) pe_bl))) ss_nil)))))))))
      (ss_one (s_ret hk (d_c (.bl true) pe_bl)))))
theorem dv__law_far_right {P : Program} {w : World} {K : PySem.W.Frag} {mg : Str → Option Value} {base : Heap} {f : Addr} {cdv : Value} {A : Around} {out : List Env} {s0 : Shared} {H : Hp} {E : XK} {b : Bas} {k : Nat} {ks : List Nat} (zb : Blts mg base) (hk : b.kp.map (·.1) = ks) (room : Room k (A.deeper (envOfC "_law_far_right" (defScope s__law_far_right) s0.heap.objs.size f cdv))) (grd : (A.deeper (envOfC "_law_far_right" (defScope s__law_far_right) s0.heap.objs.size f cdv)).guards = some []) {LC : Addr} {sp_into_sum : DSp} {k_into_sum : Nat} (c_into_sum : KnownP P w K mg base k_into_sum "into_sum" sp_into_sum) (h_into_sum : k_into_sum ≤ k) {sp_from_sum : DSp} {k_from_sum : Nat} (c_from_sum : KnownP P w K mg base k_from_sum "from_sum" sp_from_sum) (h_from_sum : k_from_sum ≤ k) {sp__law_factor_at : DSp} {k__law_factor_at : Nat} (c__law_factor_at : KnownP P w K mg base k__law_factor_at "_law_factor_at" sp__law_factor_at) (h__law_factor_at : k__law_factor_at ≤ k) {sp_into_product : DSp} {k_into_product : Nat} (c_into_product : KnownP P w K mg base k_into_product "into_product" sp_into_product) (h_into_product : k_into_product ≤ k) {sp_from_product : DSp} {k_from_product : Nat} (c_from_product : KnownP P w K mg base k_from_product "from_product" sp_from_product) (h_from_product : k_from_product ≤ k) {sp__law_marks_of : DSp} {k__law_marks_of : Nat} (c__law_marks_of : KnownP P w K mg base k__law_marks_of "_law_marks_of" sp__law_marks_of) (h__law_marks_of : k__law_marks_of ≤ k) {sp__law_below : DSp} {k__law_below : Nat} (c__law_below : KnownP P w K mg base k__law_below "_law_below" sp__law_below) (h__law_below : k__law_below ≤ k) {sp_Layout : DSp} {k_Layout : Nat} (c_Layout : MkP P w K mg base k_Layout "Layout" LC sp_Layout) (h_Layout : k_Layout + 1 ≤ k) :
    PSsD (cxOf CX0 P w K mg base n__law_far_right "_law_far_right" (defScope s__law_far_right) f cdv A out s0 H E).nox b (defBody s__law_far_right) (rd__law_far_right ks LC sp_into_sum sp_from_sum sp__law_factor_at sp_into_product sp_from_product sp__law_marks_of sp__law_below sp_Layout) :=
  (ss_cons (s_unp hk (d_tup hk (a_cons (d_lc (own := [("k", 12)]) hk (by decide) rfl sc__law_far_right.nd (i_range1 rfl zb.range (a_cons (d_c (.int 3) pe_int) a_nil)) (blk_ok (N := n__law_far_right) (sc := defScope s__law_far_right) (by decide +kernel)) (fun s H C cl fp => (g_name (i := 12) hk sc__law_far_right.nd rfl (.inl rfl))) (fun s H C cl fp => ts_nil) (fun s H C cl fp => (d_op op_add3 o_add3 (d_c (.int 1) pe_int) (d_callRP hk c__law_below (room.mono h__law_below) grd rfl (a_cons (d_var 0 (pv 0)) (a_cons (d_op op_pow o_pow (d_c (.int 10) pe_int) (d_c (.int 9) pe_int)) a_nil)))))) (a_cons (d_lc (own := [("k", 12)]) hk (by decide) rfl sc__law_far_right.nd (i_range1 rfl zb.range (a_cons (d_c (.int 4) pe_int) a_nil)) (blk_ok (N := n__law_far_right) (sc := defScope s__law_far_right) (by decide +kernel)) (fun s H C cl fp => (g_name (i := 12) hk sc__law_far_right.nd rfl (.inl rfl))) (fun s H C cl fp => ts_nil) (fun s H C cl fp => (d_op op_add3 o_add3 (d_c (.int 1) pe_int) (d_callRP hk c__law_below (room.mono h__law_below) grd rfl (a_cons (d_var 0 (pv 0)) (a_cons (d_op op_pow o_pow (d_c (.int 10) pe_int) (d_c (.int 9) pe_int)) a_nil)))))) a_nil))) (g_tup rfl (gs_cons (g_name (i := 1) hk sc__law_far_right.nd rfl (.inr rfl)) (gs_cons (g_name (i := 2) hk sc__law_far_right.nd rfl (.inr rfl)) gs_nil))))
      (ss_cons (s_par2 (i := 3) (j := 4) hk rfl sc__law_far_right.nd rfl rfl (by decide) rfl rfl (a_cons (d_make hk c_Layout (room.mono h_Layout) grd rfl (a_cons (d_var 1 (pv 1)) a_nil)) (a_cons (d_make hk c_Layout (room.mono h_Layout) grd rfl (a_cons (d_var 2 (pv 2)) a_nil)) a_nil)) rfl)
      (ss_cons (s_unp hk (d_tup hk (a_cons (d_callRP hk c__law_below (room.mono h__law_below) grd rfl (a_cons (d_var 0 (pv 0)) (a_cons (d_c (.int 3) pe_int) a_nil))) (a_cons (d_callRP hk c__law_below (room.mono h__law_below) grd rfl (a_cons (d_var 0 (pv 0)) (a_cons (d_c (.int 4) pe_int) a_nil))) a_nil))) (g_tup rfl (gs_cons (g_name (i := 5) hk sc__law_far_right.nd rfl (.inr rfl)) (gs_cons (g_name (i := 6) hk sc__law_far_right.nd rfl (.inr rfl)) gs_nil))))
      (ss_cons (s_set (i := 7) hk sc__law_far_right.nd rfl (.inl rfl) (d_tup hk (a_cons (d_var 5 (pv 5)) (a_cons (d_callRP hk c__law_below (room.mono h__law_below) grd rfl (a_cons (d_var 0 (pv 0)) (a_cons (d_ix ix_seq o_ix (d_var 1 (pv 1)) (d_var 5 (pv 5))) a_nil))) (a_cons (d_callP hk c__law_marks_of (room.mono h__law_marks_of) grd rfl (a_cons (d_var 5 (pv 5)) (a_cons (d_c (.str "a") pe_str) a_nil))) a_nil)))))
      (ss_cons (s_set (i := 8) hk sc__law_far_right.nd rfl (.inl rfl) (d_tup hk (a_cons (d_var 6 (pv 6)) (a_cons (d_callRP hk c__law_below (room.mono h__law_below) grd rfl (a_cons (d_var 0 (pv 0)) (a_cons (d_ix ix_seq o_ix (d_var 2 (pv 2)) (d_var 6 (pv 6))) a_nil))) (a_cons (d_callP hk c__law_marks_of (room.mono h__law_marks_of) grd rfl (a_cons (d_var 6 (pv 6)) (a_cons (d_c (.str "b") pe_str) a_nil))) a_nil)))))
      (ss_cons (s_set (i := 9) hk sc__law_far_right.nd rfl (.inl rfl) (d_op op_add3 o_add3 (d_op op_add3 o_add3 (d_b (cr_sum rfl) b_sum rfl zb.sum bt_sum (a_cons (d_lc (own := [("short", 13)]) hk (by decide) rfl sc__law_far_right.nd (i_range1 rfl zb.range (a_cons (d_var 5 (pv 5)) a_nil)) (blk_ok (N := n__law_far_right) (sc := defScope s__law_far_right) (by decide +kernel)) (fun s H C cl fp => (g_name (i := 13) hk sc__law_far_right.nd rfl (.inl rfl))) (fun s H C cl fp => ts_nil) (fun s H C cl fp => (d_op op_mulA o_mulA (d_ix ix_seq o_ix (d_var 1 (pv 1)) (d_var 13 (pv 13))) (d_callP hk c__law_factor_at (room.mono h__law_factor_at) grd rfl (a_cons (d_var 2 (pv 2)) (a_cons (d_op op_sub o_sub (d_op op_add3 o_add3 (d_var 5 (pv 5)) (d_var 6 (pv 6))) (d_var 13 (pv 13))) a_nil)))))) a_nil)) (d_op op_mulA o_mulA (d_ix ix_seq o_ix (d_var 7 (pv 7)) (d_c (.int 1) pe_int)) (d_ix ix_seq o_ix (d_var 2 (pv 2)) (d_var 6 (pv 6))))) (d_ix ix_seq o_ix (d_var 8 (pv 8)) (d_c (.int 1) pe_int))))
      (ss_cons (s_set (i := 10) hk sc__law_far_right.nd rfl (.inl rfl) (d_tup hk (a_cons (d_op op_add3 o_add3 (d_var 5 (pv 5)) (d_var 6 (pv 6))) (a_cons (d_var 9 (pv 9)) (a_cons (d_op op_add3 o_add3 (d_ix ix_seq o_ix (d_var 7 (pv 7)) (d_c (.int 2) pe_int)) (d_ix ix_seq o_ix (d_var 8 (pv 8)) (d_c (.int 2) pe_int))) a_nil)))))
      (ss_cons (s_if (t_w (tw_or (t_cmp (op_neA (u64 room)) o_eqA (d_callP hk c_into_product (room.mono h_into_product) grd rfl (a_cons (d_var 3 (pv 3)) (a_cons (d_var 4 (pv 4)) (a_cons (d_var 7 (pv 7)) (a_cons (d_var 8 (pv 8)) a_nil))))) (d_var 10 (pv 10)) rfl) (tw_or1 (t_cmp (op_neA (u64 room)) o_eqA (d_callP hk c_from_product (room.mono h_from_product) grd rfl (a_cons (d_var 3 (pv 3)) (a_cons (d_var 4 (pv 4)) (a_cons (d_var 10 (pv 10)) a_nil)))) (d_tup hk (a_cons (d_var 7 (pv 7)) (a_cons (d_var 8 (pv 8)) a_nil))) rfl)))) (ss_one (s_ret hk (d_c (.bl false) pe_bl))) ss_nil)
      (ss_cons (s_set (i := 11) hk sc__law_far_right.nd rfl (.inl rfl) (d_tup hk (a_cons (d_var 6 (pv 6)) (a_cons (d_op op_add3 o_add3 (d_ix ix_seq o_ix (d_var 8 (pv 8)) (d_c (.int 1) pe_int)) (d_callP hk c__law_factor_at (room.mono h__law_factor_at) grd rfl (a_cons (d_var 1 (pv 1)) (a_cons (d_var 6 (pv 6)) a_nil)))) (a_cons (d_ix ix_seq o_ix (d_var 8 (pv 8)) (d_c (.int 2) pe_int)) a_nil)))))
      (ss_one (s_ret hk (d_and (d_cmp (op_eqA (u64 room)) o_eqA (d_callP hk c_into_sum (room.mono h_into_sum) grd rfl (a_cons (d_var 3 (pv 3)) (a_cons (d_var 4 (pv 4)) (a_cons (d_c (.int 1) pe_int) (a_cons (d_var 8 (pv 8)) a_nil))))) (d_var 11 (pv 11)) rfl) (d_one (d_cmp (op_eqA (u64 room)) o_eqA (d_callP hk c_from_sum (room.mono h_from_sum) grd rfl (a_cons (d_var 3 (pv 3)) (a_cons (d_var 4 (pv 4)) (a_cons (d_var 11 (pv 11)) a_nil)))) (d_tup hk (a_cons (d_c (.int 1) pe_int) (a_cons (d_var 8 (pv 8)) a_nil))) rfl))))))))))))))
theorem dv_law {P : Program} {w : World} {K : PySem.W.Frag} {mg : Str → Option Value} {base : Heap} {f : Addr} {cdv : Value} {A : Around} {out : List Env} {s0 : Shared} {H : Hp} {E : XK} {b : Bas} {k : Nat} {ks : List Nat} (zb : Blts mg base) (hk : b.kp.map (·.1) = ks) (room : Room k (A.deeper (envOfC "law" (defScope s_law) s0.heap.objs.size f cdv))) (grd : (A.deeper (envOfC "law" (defScope s_law) s0.heap.objs.size f cdv)).guards = some []) {LC : Addr} {sp__law_far_right : DSp} {k__law_far_right : Nat} (c__law_far_right : KnownP P w K mg base k__law_far_right "_law_far_right" sp__law_far_right) (h__law_far_right : k__law_far_right ≤ k) {sp__law_product_right : DSp} {k__law_product_right : Nat} (c__law_product_right : KnownP P w K mg base k__law_product_right "_law_product_right" sp__law_product_right) (h__law_product_right : k__law_product_right ≤ k) {sp__law_sum_right : DSp} {k__law_sum_right : Nat} (c__law_sum_right : KnownP P w K mg base k__law_sum_right "_law_sum_right" sp__law_sum_right) (h__law_sum_right : k__law_sum_right ≤ k) {sp__law_below : DSp} {k__law_below : Nat} (c__law_below : KnownP P w K mg base k__law_below "_law_below" sp__law_below) (h__law_below : k__law_below ≤ k) {sp__law_pick : DSp} {k__law_pick : Nat} (c__law_pick : KnownP P w K mg base k__law_pick "_law_pick" sp__law_pick) (h__law_pick : k__law_pick ≤ k) {sp__law_some_factors : DSp} {k__law_some_factors : Nat} (c__law_some_factors : KnownP P w K mg base k__law_some_factors "_law_some_factors" sp__law_some_factors) (h__law_some_factors : k__law_some_factors ≤ k) {sp__law_deck_of : DSp} {k__law_deck_of : Nat} (c__law_deck_of : KnownP P w K mg base k__law_deck_of "_law_deck_of" sp__law_deck_of) (h__law_deck_of : k__law_deck_of ≤ k) {sp_Layout : DSp} {k_Layout : Nat} (c_Layout : MkP P w K mg base k_Layout "Layout" LC sp_Layout) (h_Layout : k_Layout + 1 ≤ k) :
    PSsD (cxOf CX0 P w K mg base n_law "law" (defScope s_law) f cdv A out s0 H E).nox b (defBody s_law) (rd_law ks LC sp__law_far_right sp__law_product_right sp__law_sum_right sp__law_below sp__law_pick sp__law_some_factors sp__law_deck_of sp_Layout) :=
  (ss_cons (s_set (i := 1) hk sc_law.nd rfl (.inl rfl) (d_callP hk c__law_deck_of (room.mono h__law_deck_of) grd rfl (a_cons (d_var 0 (pv 0)) a_nil)))
      (ss_cons (s_for PassesOwn.never rfl (i_range1 rfl zb.range (a_cons (d_c (.int 2) pe_int) a_nil)) (g_name (i := 2) hk sc_law.nd rfl (.inl rfl)) (ss_cons (s_par2 (i := 3) (j := 4) hk rfl sc_law.nd rfl rfl (by decide) rfl rfl (a_cons (d_callRP hk c__law_some_factors (room.mono h__law_some_factors) grd rfl (a_cons (d_var 1 (pv 1)) (a_cons (d_c (.int 3) pe_int) (a_cons (d_c (.int 3) pe_int) a_nil)))) (a_cons (d_callRP hk c__law_some_factors (room.mono h__law_some_factors) grd rfl (a_cons (d_var 1 (pv 1)) (a_cons (d_c (.int 3) pe_int) (a_cons (d_c (.int 3) pe_int) a_nil)))) a_nil)) rfl)
      (ss_cons (s_if (t_cmp (op_eqA (u64 room)) o_eqA (d_callRP hk c__law_below (room.mono h__law_below) grd rfl (a_cons (d_var 1 (pv 1)) (a_cons (d_c (.int 9) pe_int) a_nil))) (d_c (.int 0) pe_int) rfl) (ss_one (s_set (i := 3) hk sc_law.nd rfl (.inl rfl) (d_callRP hk c__law_pick (room.mono h__law_pick) grd rfl (a_cons (d_var 1 (pv 1)) (a_cons (d_lst hk (a_cons (d_lst hk a_nil) (a_cons (d_lst hk (a_cons (d_c (.int 0) pe_int) (a_cons (d_c (.int 0) pe_int) a_nil))) (a_cons (d_lst hk (a_cons (d_c (.int 3) pe_int) a_nil)) (a_cons (d_lst hk (a_cons (d_c (.int 1) pe_int) a_nil)) a_nil))))) a_nil))))) ss_nil)
      (ss_cons (s_par2 (i := 5) (j := 6) hk rfl sc_law.nd rfl rfl (by decide) rfl rfl (a_cons (d_make hk c_Layout (room.mono h_Layout) grd rfl (a_cons (d_var 3 (pv 3)) a_nil)) (a_cons (d_make hk c_Layout (room.mono h_Layout) grd rfl (a_cons (d_var 4 (pv 4)) a_nil)) a_nil)) rfl)
      (ss_cons (s_if (t_w (tw_or (t_not (t_tr (d_callP hk c__law_sum_right (room.mono h__law_sum_right) grd rfl (a_cons (d_var 3 (pv 3)) (a_cons (d_var 4 (pv 4)) (a_cons (d_var 5 (pv 5)) (a_cons (d_var 6 (pv 6)) a_nil))))))) (tw_or1 (t_not (t_tr (d_callP hk c__law_product_right (room.mono h__law_product_right) grd rfl (a_cons (d_var 3 (pv 3)) (a_cons (d_var 4 (pv 4)) (a_cons (d_var 5 (pv 5)) (a_cons (d_var 6 (pv 6)) a_nil)))))))))) (ss_one (s_ret hk (d_c (.bl false) pe_bl))) ss_nil)
      (ss_one (s_if (t_w (tw_or (t_not (t_tr (d_callP hk c__law_product_right (room.mono h__law_product_right) grd rfl (a_cons (d_var 4 (pv 4)) (a_cons (d_var 3 (pv 3)) (a_cons (d_var 6 (pv 6)) (a_cons (d_var 5 (pv 5)) a_nil))))))) (tw_or1 (t_not (t_tr (d_callP hk c__law_sum_right (room.mono h__law_sum_right) grd rfl (a_cons (d_var 4 (pv 4)) (a_cons (d_var 3 (pv 3)) (a_cons (d_var 6 (pv 6)) (a_cons (d_var 5 (pv 5)) a_nil)))))))))) (ss_one (s_ret hk (d_c (.bl false) pe_bl))) ss_nil)))))))
      (ss_one (s_ret hk (d_callRP hk c__law_far_right (room.mono h__law_far_right) grd rfl (a_cons (d_var 1 (pv 1)) a_nil))))))
theorem known {P : Program} {w : World} {K : PySem.W.Frag} {mg : Str → Option Value} {base : Heap} {k : Nat} {x : Str} {st : Stmt} {N ps : List Str} {sp : DSp} {rd : List Nat → SD} (t : AtM K mg x st) (S : FnScope N ps (defScope st)) (p : PL N.length ps.length rd sp) (bd : ∀ (f : Addr) (fd : FuncData), Fun K x x st f fd → Binds K fd ps [])
    (d : ∀ (f : Addr) (cdv : Value) (A : Around) (out : List Env) (s0 : Shared) (H : Hp) (b : Bas) (ks : List Nat) (E : XK), Room k (A.deeper (envOfC x (defScope st) s0.heap.objs.size f cdv)) → (A.deeper (envOfC x (defScope st) s0.heap.objs.size f cdv)).guards = some [] → b.kp.map (·.1) = ks →
      PSsD (cxOf CX0 P w K mg base N x (defScope st) f cdv A out s0 H E).nox b (defBody st) (rd ks)) : KnownP P w K mg base (k + 1) x sp := by
  obtain ⟨f, fd, F, hm, hk⟩ := t.fn
  exact ⟨f, fd, ps, p.fn F S (d f), hm, hk, bd f fd F⟩
theorem vacuous {P : Program} {w : World} {K : PySem.W.Frag} {mg : Str → Option Value} {base : Heap} {k : Nat} {x : Str} {st : Stmt} {ps : List Str} {sp : DSp} (t : AtM K mg x st) (bd : ∀ (f : Addr) (fd : FuncData), Fun K x x st f fd → Binds K fd ps []) (no : ∀ args Q E, ¬ sp args Q E) : KnownP P w K mg base k x sp := by
  obtain ⟨f, fd, F, hm, hk⟩ := t.fn
  refine ⟨f, fd, ps, ⟨fun xs G Q E h => ?_, fun A out s G ar us xs Q E _ _ _ _ _ h => ?_⟩, hm, hk, bd f fd F⟩
  · obtain ⟨_, args, QD, ED, _, _, _, h, _⟩ := h
    exact (no args QD ED h).elim
  · obtain ⟨_, args, QD, ED, _, _, _, h, _⟩ := h
    exact (no args QD ED h).elim
theorem kn_is_integer {P : Program} {w : World} {K : PySem.W.Frag} {mg : Str → Option Value} {base : Heap} (zb : Blts mg base) (t : AtM K mg "is_integer" s_is_integer)  : KnownP P w K mg base 1 "is_integer" sp_is_integer :=
  known (k := 0) t sc_is_integer pl_is_integer (fun _ _ F => F.binds (ps := ["thing"]) fun _ _ _ _ _ _ us hl => match us, hl with | [_], _ => rfl) fun f cdv A out s0 H b ks E room grd hk => dv_is_integer zb hk room grd 
theorem kn_trimmed {P : Program} {w : World} {K : PySem.W.Frag} {mg : Str → Option Value} {base : Heap} (zb : Blts mg base) (t : AtM K mg "trimmed" s_trimmed)  : KnownP P w K mg base 1 "trimmed" sp_trimmed :=
  known (k := 0) t sc_trimmed pl_trimmed (fun _ _ F => F.binds (ps := ["factors"]) fun _ _ _ _ _ _ us hl => match us, hl with | [_], _ => rfl) fun f cdv A out s0 H b ks E room grd hk => dv_trimmed zb hk room grd 
theorem kn_added {P : Program} {w : World} {K : PySem.W.Frag} {mg : Str → Option Value} {base : Heap} (zb : Blts mg base) (t : AtM K mg "added" s_added)  : KnownP P w K mg base 1 "added" sp_added :=
  known (k := 0) t sc_added pl_added (fun _ _ F => F.binds (ps := ["one", "other"]) fun _ _ _ _ _ _ us hl => match us, hl with | [_, _], _ => rfl) fun f cdv A out s0 H b ks E room grd hk => dv_added zb hk room grd 
theorem kn_multiplied {P : Program} {w : World} {K : PySem.W.Frag} {mg : Str → Option Value} {base : Heap} (zb : Blts mg base) (t : AtM K mg "multiplied" s_multiplied)  : KnownP P w K mg base 1 "multiplied" sp_multiplied :=
  known (k := 0) t sc_multiplied pl_multiplied (fun _ _ F => F.binds (ps := ["one", "other"]) fun _ _ _ _ _ _ us hl => match us, hl with | [_, _], _ => rfl) fun f cdv A out s0 H b ks E room grd hk => dv_multiplied zb hk room grd 
theorem kn_factors_of {P : Program} {w : World} {K : PySem.W.Frag} {mg : Str → Option Value} {base : Heap} {LC : Addr} (zb : Blts mg base) (t : AtM K mg "factors_of" s_factors_of) (cl_LC : Cls K LC) (na_LC_factors : NoAttr K LC "factors") (ic_LC : IsC K LC) (mc_LC : mg "Layout" = some (.ref LC)) (nt_LC_int : PySem.W.mroIn K LC (.type "int") = some false) : KnownP P w K mg base 1 "factors_of" (sp_factors_of LC) :=
  known (k := 0) t sc_factors_of (pl_factors_of LC) (fun _ _ F => F.binds (ps := ["thing"]) fun _ _ _ _ _ _ us hl => match us, hl with | [_], _ => rfl) fun f cdv A out s0 H b ks E room grd hk => dv_factors_of zb hk room grd cl_LC na_LC_factors ic_LC mc_LC nt_LC_int
theorem kn_factor_at {P : Program} {w : World} {K : PySem.W.Frag} {mg : Str → Option Value} {base : Heap} (zb : Blts mg base) (t : AtM K mg "factor_at" s_factor_at)  : KnownP P w K mg base 1 "factor_at" sp_factor_at :=
  known (k := 0) t sc_factor_at pl_factor_at (fun _ _ F => F.binds (ps := ["factors", "k"]) fun _ _ _ _ _ _ us hl => match us, hl with | [_, _], _ => rfl) fun f cdv A out s0 H b ks E room grd hk => dv_factor_at zb hk room grd 
theorem kn_into_sum {P : Program} {w : World} {K : PySem.W.Frag} {mg : Str → Option Value} {base : Heap} {LC : Addr} (zb : Blts mg base) (t : AtM K mg "into_sum" s_into_sum) (cl_LC : Cls K LC) (na_LC_factors : NoAttr K LC "factors") (c_factor_at : KnownP P w K mg base 1 "factor_at" sp_factor_at) : KnownP P w K mg base 2 "into_sum" (sp_into_sum LC) :=
  known (k := 1) t sc_into_sum (pl_into_sum LC) (fun _ _ F => F.binds (ps := ["one", "other", "side", "record"]) fun _ _ _ _ _ _ us hl => match us, hl with | [_, _, _, _], _ => rfl) fun f cdv A out s0 H b ks E room grd hk => dv_into_sum zb hk room grd cl_LC na_LC_factors c_factor_at (by decide)
theorem kn_from_sum {P : Program} {w : World} {K : PySem.W.Frag} {mg : Str → Option Value} {base : Heap} {LC : Addr} (zb : Blts mg base) (t : AtM K mg "from_sum" s_from_sum) (cl_LC : Cls K LC) (na_LC_factors : NoAttr K LC "factors") (c_factor_at : KnownP P w K mg base 1 "factor_at" sp_factor_at) : KnownP P w K mg base 2 "from_sum" (sp_from_sum LC) :=
  known (k := 1) t sc_from_sum (pl_from_sum LC) (fun _ _ F => F.binds (ps := ["one", "other", "record"]) fun _ _ _ _ _ _ us hl => match us, hl with | [_, _, _], _ => rfl) fun f cdv A out s0 H b ks E room grd hk => dv_from_sum zb hk room grd cl_LC na_LC_factors c_factor_at (by decide)
theorem kn_pairs_ahead {P : Program} {w : World} {K : PySem.W.Frag} {mg : Str → Option Value} {base : Heap} {LC : Addr} (zb : Blts mg base) (t : AtM K mg "pairs_ahead" s_pairs_ahead) (cl_LC : Cls K LC) (na_LC_factors : NoAttr K LC "factors") (c_factor_at : KnownP P w K mg base 1 "factor_at" sp_factor_at) : KnownP P w K mg base 2 "pairs_ahead" (sp_pairs_ahead LC) :=
  known (k := 1) t sc_pairs_ahead (pl_pairs_ahead LC) (fun _ _ F => F.binds (ps := ["one", "other", "k", "many"]) fun _ _ _ _ _ _ us hl => match us, hl with | [_, _, _, _], _ => rfl) fun f cdv A out s0 H b ks E room grd hk => dv_pairs_ahead zb hk room grd cl_LC na_LC_factors c_factor_at (by decide)
theorem kn_into_product {P : Program} {w : World} {K : PySem.W.Frag} {mg : Str → Option Value} {base : Heap} {LC : Addr} (zb : Blts mg base) (t : AtM K mg "into_product" s_into_product) (cl_LC : Cls K LC) (na_LC_factors : NoAttr K LC "factors") (c_pairs_ahead : KnownP P w K mg base 2 "pairs_ahead" (sp_pairs_ahead LC)) (c_factor_at : KnownP P w K mg base 1 "factor_at" sp_factor_at) : KnownP P w K mg base 3 "into_product" (sp_into_product LC) :=
  known (k := 2) t sc_into_product (pl_into_product LC) (fun _ _ F => F.binds (ps := ["one", "other", "first", "second"]) fun _ _ _ _ _ _ us hl => match us, hl with | [_, _, _, _], _ => rfl) fun f cdv A out s0 H b ks E room grd hk => dv_into_product zb hk room grd cl_LC na_LC_factors c_pairs_ahead (by decide) c_factor_at (by decide)
theorem kn_from_product {P : Program} {w : World} {K : PySem.W.Frag} {mg : Str → Option Value} {base : Heap} {LC : Addr} (zb : Blts mg base) (t : AtM K mg "from_product" s_from_product) (cl_LC : Cls K LC) (na_LC_factors : NoAttr K LC "factors") (c_factor_at : KnownP P w K mg base 1 "factor_at" sp_factor_at) (c_pairs_ahead : KnownP P w K mg base 2 "pairs_ahead" (sp_pairs_ahead LC)) : KnownP P w K mg base 3 "from_product" (sp_from_product LC) :=
  known (k := 2) t sc_from_product (pl_from_product LC) (fun _ _ F => F.binds (ps := ["one", "other", "record"]) fun _ _ _ _ _ _ us hl => match us, hl with | [_, _, _], _ => rfl) fun f cdv A out s0 H b ks E room grd hk => dv_from_product zb hk room grd cl_LC na_LC_factors c_factor_at (by decide) c_pairs_ahead (by decide)
theorem mk_Layout {P : Program} {w : World} {K : PySem.W.Frag} {mg : Str → Option Value} {base : Heap} {LC : Addr} (zb : Blts mg base) (x_Layout : ClsK K "Layout" LC) (mgx : mg "Layout" = some (.ref LC)) (t : AtMth K LC "__init__" "Layout.__init__" s_Layout___init__) {tk_MAX_DEGREE : Tok} (gl_MAX_DEGREE : mg "MAX_DEGREE" = some (.int (40) tk_MAX_DEGREE)) (cl_LC : Cls K LC) (na_LC_key : NoAttr K LC "key") (na_LC_factors : NoAttr K LC "factors") (na_LC_degree : NoAttr K LC "degree") (c_trimmed : KnownP P w K mg base 1 "trimmed" sp_trimmed) (c_is_integer : KnownP P w K mg base 1 "is_integer" sp_is_integer) : MkP P w K mg base 2 "Layout" LC (sp_Layout___init__ LC) :=
  knownM (k := 1) x_Layout mgx t sc_Layout___init__ (pl_Layout___init__ LC) (fun _ _ F => F.binds (ps := ["self", "factors"]) fun _ _ _ _ _ _ us hl => match us, hl with | [_, _], _ => rfl) fun f cdv A out s0 H b ks E room grd hk => dv_Layout___init__ zb hk room grd gl_MAX_DEGREE cl_LC na_LC_key na_LC_factors na_LC_degree c_trimmed (by decide) c_is_integer (by decide)
theorem kb_Layout___add__ {P : Program} {w : World} {K : PySem.W.Frag} {mg : Str → Option Value} {base : Heap} {LC : Addr} (zb : Blts mg base) (t : BinAt K LC "__add__" "Layout.__add__" s_Layout___add__) (cl_LC : Cls K LC) (na_LC_factors : NoAttr K LC "factors") (c_factors_of : KnownP P w K mg base 1 "factors_of" (sp_factors_of LC)) (c_added : KnownP P w K mg base 1 "added" sp_added) (c_Layout : MkP P w K mg base 2 "Layout" LC (sp_Layout___init__ LC)) : BinP P w K mg base 4 LC "__add__" (sp_Layout___add__ LC) :=
  knownB (k := 3) t sc_Layout___add__ (pl_Layout___add__ LC) (fun _ _ F => F.binds (ps := ["self", "other"]) fun _ _ _ _ _ _ us hl => match us, hl with | [_, _], _ => rfl) fun f cdv A out s0 H b ks E room grd hk => dv_Layout___add__ zb hk room grd cl_LC na_LC_factors c_factors_of (by decide) c_added (by decide) c_Layout (by decide)
theorem kb_Layout___mul__ {P : Program} {w : World} {K : PySem.W.Frag} {mg : Str → Option Value} {base : Heap} {LC : Addr} (zb : Blts mg base) (t : BinAt K LC "__mul__" "Layout.__mul__" s_Layout___mul__) (cl_LC : Cls K LC) (na_LC_factors : NoAttr K LC "factors") (c_factors_of : KnownP P w K mg base 1 "factors_of" (sp_factors_of LC)) (c_multiplied : KnownP P w K mg base 1 "multiplied" sp_multiplied) (c_Layout : MkP P w K mg base 2 "Layout" LC (sp_Layout___init__ LC)) : BinP P w K mg base 4 LC "__mul__" (sp_Layout___mul__ LC) :=
  knownB (k := 3) t sc_Layout___mul__ (pl_Layout___mul__ LC) (fun _ _ F => F.binds (ps := ["self", "other"]) fun _ _ _ _ _ _ us hl => match us, hl with | [_, _], _ => rfl) fun f cdv A out s0 H b ks E room grd hk => dv_Layout___mul__ zb hk room grd cl_LC na_LC_factors c_factors_of (by decide) c_multiplied (by decide) c_Layout (by decide)
theorem ko_Layout___getitem__ {P : Program} {w : World} {K : PySem.W.Frag} {mg : Str → Option Value} {base : Heap} {LC : Addr} (zb : Blts mg base) (t : OneAt K LC "__getitem__" "Layout.__getitem__" s_Layout___getitem__) (cl_LC : Cls K LC) (na_LC_factors : NoAttr K LC "factors") : OneP P w K mg base 1 LC "__getitem__" (sp_Layout___getitem__ LC) :=
  knownO (k := 0) t sc_Layout___getitem__ (pl_Layout___getitem__ LC) (fun _ _ F => F.binds (ps := ["self", "at"]) fun _ _ _ _ _ _ us hl => match us, hl with | [_, _], _ => rfl) fun f cdv A out s0 H b ks E room grd hk => dv_Layout___getitem__ zb hk room grd cl_LC na_LC_factors
theorem kn__law_mixed {P : Program} {w : World} {K : PySem.W.Frag} {mg : Str → Option Value} {base : Heap} (zb : Blts mg base) (t : AtM K mg "_law_mixed" s__law_mixed)  : KnownP P w K mg base 1 "_law_mixed" sp__law_mixed :=
  known (k := 0) t sc__law_mixed pl__law_mixed (fun _ _ F => F.binds (ps := ["number", "lap"]) fun _ _ _ _ _ _ us hl => match us, hl with | [_, _], _ => rfl) fun f cdv A out s0 H b ks E room grd hk => dv__law_mixed zb hk room grd 
theorem kn__law_deck_of {P : Program} {w : World} {K : PySem.W.Frag} {mg : Str → Option Value} {base : Heap} (zb : Blts mg base) (t : AtM K mg "_law_deck_of" s__law_deck_of)  : KnownP P w K mg base 1 "_law_deck_of" sp__law_deck_of :=
  known (k := 0) t sc__law_deck_of pl__law_deck_of (fun _ _ F => F.binds (ps := ["script"]) fun _ _ _ _ _ _ us hl => match us, hl with | [_], _ => rfl) fun f cdv A out s0 H b ks E room grd hk => dv__law_deck_of zb hk room grd 
theorem kn__law_below {P : Program} {w : World} {K : PySem.W.Frag} {mg : Str → Option Value} {base : Heap} (zb : Blts mg base) (t : AtM K mg "_law_below" s__law_below) (c__law_mixed : KnownP P w K mg base 1 "_law_mixed" sp__law_mixed) : KnownP P w K mg base 2 "_law_below" sp__law_below :=
  known (k := 1) t sc__law_below pl__law_below (fun _ _ F => F.binds (ps := ["deck", "bound"]) fun _ _ _ _ _ _ us hl => match us, hl with | [_, _], _ => rfl) fun f cdv A out s0 H b ks E room grd hk => dv__law_below zb hk room grd c__law_mixed (by decide)
theorem kn__law_pick {P : Program} {w : World} {K : PySem.W.Frag} {mg : Str → Option Value} {base : Heap} (zb : Blts mg base) (t : AtM K mg "_law_pick" s__law_pick) (c__law_below : KnownP P w K mg base 2 "_law_below" sp__law_below) : KnownP P w K mg base 3 "_law_pick" sp__law_pick :=
  known (k := 2) t sc__law_pick pl__law_pick (fun _ _ F => F.binds (ps := ["deck", "some"]) fun _ _ _ _ _ _ us hl => match us, hl with | [_, _], _ => rfl) fun f cdv A out s0 H b ks E room grd hk => dv__law_pick zb hk room grd c__law_below (by decide)
theorem kn__law_some_factors {P : Program} {w : World} {K : PySem.W.Frag} {mg : Str → Option Value} {base : Heap} (zb : Blts mg base) (t : AtM K mg "_law_some_factors" s__law_some_factors) (c__law_below : KnownP P w K mg base 2 "_law_below" sp__law_below) (c__law_pick : KnownP P w K mg base 3 "_law_pick" sp__law_pick) : KnownP P w K mg base 4 "_law_some_factors" sp__law_some_factors :=
  known (k := 3) t sc__law_some_factors pl__law_some_factors (fun _ _ F => F.binds (ps := ["deck", "degree", "most"]) fun _ _ _ _ _ _ us hl => match us, hl with | [_, _, _], _ => rfl) fun f cdv A out s0 H b ks E room grd hk => dv__law_some_factors zb hk room grd c__law_below (by decide) c__law_pick (by decide)
theorem kn__law_marks_of {P : Program} {w : World} {K : PySem.W.Frag} {mg : Str → Option Value} {base : Heap} (zb : Blts mg base) (t : AtM K mg "_law_marks_of" s__law_marks_of)  : KnownP P w K mg base 1 "_law_marks_of" sp__law_marks_of :=
  known (k := 0) t sc__law_marks_of pl__law_marks_of (fun _ _ F => F.binds (ps := ["k", "sign"]) fun _ _ _ _ _ _ us hl => match us, hl with | [_, _], _ => rfl) fun f cdv A out s0 H b ks E room grd hk => dv__law_marks_of zb hk room grd 
theorem kn__law_all {P : Program} {w : World} {K : PySem.W.Frag} {mg : Str → Option Value} {base : Heap} (zb : Blts mg base) (t : AtM K mg "_law_all" s__law_all) (c__law_marks_of : KnownP P w K mg base 1 "_law_marks_of" sp__law_marks_of) : KnownP P w K mg base 2 "_law_all" sp__law_all :=
  known (k := 1) t sc__law_all pl__law_all (fun _ _ F => F.binds (ps := ["factors", "sign"]) fun _ _ _ _ _ _ us hl => match us, hl with | [_, _], _ => rfl) fun f cdv A out s0 H b ks E room grd hk => dv__law_all zb hk room grd c__law_marks_of (by decide)
theorem kn__law_factor_at {P : Program} {w : World} {K : PySem.W.Frag} {mg : Str → Option Value} {base : Heap} (zb : Blts mg base) (t : AtM K mg "_law_factor_at" s__law_factor_at)  : KnownP P w K mg base 1 "_law_factor_at" sp__law_factor_at :=
  known (k := 0) t sc__law_factor_at pl__law_factor_at (fun _ _ F => F.binds (ps := ["factors", "k"]) fun _ _ _ _ _ _ us hl => match us, hl with | [_, _], _ => rfl) fun f cdv A out s0 H b ks E room grd hk => dv__law_factor_at zb hk room grd 
theorem kn__law_sum_right {P : Program} {w : World} {K : PySem.W.Frag} {mg : Str → Option Value} {base : Heap} {LC : Addr} (zb : Blts mg base) (t : AtM K mg "_law_sum_right" s__law_sum_right) (c_from_sum : KnownP P w K mg base 2 "from_sum" (sp_from_sum LC)) (c_into_sum : KnownP P w K mg base 2 "into_sum" (sp_into_sum LC)) (c__law_factor_at : KnownP P w K mg base 1 "_law_factor_at" sp__law_factor_at) (c__law_marks_of : KnownP P w K mg base 1 "_law_marks_of" sp__law_marks_of) (b_Layout___add__ : BinP P w K mg base 4 LC "__add__" (sp_Layout___add__ LC)) (o_Layout___getitem__ : OneP P w K mg base 1 LC "__getitem__" (sp_Layout___getitem__ LC)) : KnownP P w K mg base 5 "_law_sum_right" (sp__law_sum_right LC) :=
  known (k := 4) t sc__law_sum_right (pl__law_sum_right LC) (fun _ _ F => F.binds (ps := ["one", "other", "first", "second"]) fun _ _ _ _ _ _ us hl => match us, hl with | [_, _, _, _], _ => rfl) fun f cdv A out s0 H b ks E room grd hk => dv__law_sum_right zb hk room grd c_from_sum (by decide) c_into_sum (by decide) c__law_factor_at (by decide) c__law_marks_of (by decide) b_Layout___add__ (by decide) o_Layout___getitem__ (by decide)
theorem kn__law_product_right {P : Program} {w : World} {K : PySem.W.Frag} {mg : Str → Option Value} {base : Heap} {LC : Addr} (zb : Blts mg base) (t : AtM K mg "_law_product_right" s__law_product_right) (c_into_product : KnownP P w K mg base 3 "into_product" (sp_into_product LC)) (c_from_product : KnownP P w K mg base 3 "from_product" (sp_from_product LC)) (c__law_all : KnownP P w K mg base 2 "_law_all" sp__law_all) (b_Layout___mul__ : BinP P w K mg base 4 LC "__mul__" (sp_Layout___mul__ LC)) (o_Layout___getitem__ : OneP P w K mg base 1 LC "__getitem__" (sp_Layout___getitem__ LC)) : KnownP P w K mg base 5 "_law_product_right" (sp__law_product_right LC) :=
  known (k := 4) t sc__law_product_right (pl__law_product_right LC) (fun _ _ F => F.binds (ps := ["one", "other", "first", "second"]) fun _ _ _ _ _ _ us hl => match us, hl with | [_, _, _, _], _ => rfl) fun f cdv A out s0 H b ks E room grd hk => dv__law_product_right zb hk room grd c_into_product (by decide) c_from_product (by decide) c__law_all (by decide) b_Layout___mul__ (by decide) o_Layout___getitem__ (by decide)
theorem kn__law_far_right {P : Program} {w : World} {K : PySem.W.Frag} {mg : Str → Option Value} {base : Heap} {LC : Addr} (zb : Blts mg base) (t : AtM K mg "_law_far_right" s__law_far_right) (c_into_sum : KnownP P w K mg base 2 "into_sum" (sp_into_sum LC)) (c_from_sum : KnownP P w K mg base 2 "from_sum" (sp_from_sum LC)) (c__law_factor_at : KnownP P w K mg base 1 "_law_factor_at" sp__law_factor_at) (c_into_product : KnownP P w K mg base 3 "into_product" (sp_into_product LC)) (c_from_product : KnownP P w K mg base 3 "from_product" (sp_from_product LC)) (c__law_marks_of : KnownP P w K mg base 1 "_law_marks_of" sp__law_marks_of) (c__law_below : KnownP P w K mg base 2 "_law_below" sp__law_below) (c_Layout : MkP P w K mg base 2 "Layout" LC (sp_Layout___init__ LC)) : KnownP P w K mg base 4 "_law_far_right" (sp__law_far_right LC) :=
  known (k := 3) t sc__law_far_right (pl__law_far_right LC) (fun _ _ F => F.binds (ps := ["deck"]) fun _ _ _ _ _ _ us hl => match us, hl with | [_], _ => rfl) fun f cdv A out s0 H b ks E room grd hk => dv__law_far_right zb hk room grd c_into_sum (by decide) c_from_sum (by decide) c__law_factor_at (by decide) c_into_product (by decide) c_from_product (by decide) c__law_marks_of (by decide) c__law_below (by decide) c_Layout (by decide)
theorem kn_law {P : Program} {w : World} {K : PySem.W.Frag} {mg : Str → Option Value} {base : Heap} {LC : Addr} (zb : Blts mg base) (t : AtM K mg "law" s_law) (c__law_far_right : KnownP P w K mg base 4 "_law_far_right" (sp__law_far_right LC)) (c__law_product_right : KnownP P w K mg base 5 "_law_product_right" (sp__law_product_right LC)) (c__law_sum_right : KnownP P w K mg base 5 "_law_sum_right" (sp__law_sum_right LC)) (c__law_below : KnownP P w K mg base 2 "_law_below" sp__law_below) (c__law_pick : KnownP P w K mg base 3 "_law_pick" sp__law_pick) (c__law_some_factors : KnownP P w K mg base 4 "_law_some_factors" sp__law_some_factors) (c__law_deck_of : KnownP P w K mg base 1 "_law_deck_of" sp__law_deck_of) (c_Layout : MkP P w K mg base 2 "Layout" LC (sp_Layout___init__ LC)) : KnownP P w K mg base 6 "law" sp_law :=
  known (k := 5) t sc_law (pl_law LC) (fun _ _ F => F.binds (ps := ["script"]) fun _ _ _ _ _ _ us hl => match us, hl with | [_], _ => rfl) fun f cdv A out s0 H b ks E room grd hk => dv_law zb hk room grd c__law_far_right (by decide) c__law_product_right (by decide) c__law_sum_right (by decide) c__law_below (by decide) c__law_pick (by decide) c__law_some_factors (by decide) c__law_deck_of (by decide) c_Layout (by decide)
theorem glS_mk {K : PySem.W.Frag} {x z : Str} {t : Tok} (a : PySem.W.nsIn K mainGlobals x = some (some (.str z t))) : ∃ t, PySem.W.nsIn K mainGlobals x = some (some (.str z t)) := ⟨t, a⟩
theorem glI_mk {K : PySem.W.Frag} {x : Str} {z : Int} {t : Tok} (a : PySem.W.nsIn K mainGlobals x = some (some (.int z t))) : ∃ t, PySem.W.nsIn K mainGlobals x = some (some (.int z t)) := ⟨t, a⟩
theorem all_ok {l : PySem.W.OpenLaw} {w : World} {K : PySem.W.Frag} {h : Heap} {mg : Str → Option Value} {fa : Addr} (X : K.In h) (G : h.Ns mainGlobals mg) (hfa : mg "law" = some (.ref fa)) {LC : Addr} (x_Layout : ClsK K "Layout" LC) (i_LC : IsC K LC) (nt_LC_int : PySem.W.mroIn K LC (.type "int") = some false) (n_LC_factors : PySem.W.findIn K (.ref LC) "factors" = some none) (n_LC_key : PySem.W.findIn K (.ref LC) "key" = some none) (n_LC_degree : PySem.W.findIn K (.ref LC) "degree" = some none) (t_is_integer : AtK K "is_integer" s_is_integer) (t_trimmed : AtK K "trimmed" s_trimmed) (t_added : AtK K "added" s_added) (t_multiplied : AtK K "multiplied" s_multiplied) (t_factors_of : AtK K "factors_of" s_factors_of) (t_factor_at : AtK K "factor_at" s_factor_at) (t_into_sum : AtK K "into_sum" s_into_sum) (t_from_sum : AtK K "from_sum" s_from_sum) (t_pairs_ahead : AtK K "pairs_ahead" s_pairs_ahead) (t_into_product : AtK K "into_product" s_into_product) (t_from_product : AtK K "from_product" s_from_product) (t_Layout___init__ : AtMth K LC "__init__" "Layout.__init__" s_Layout___init__) (t_Layout___add__ : BinAt K LC "__add__" "Layout.__add__" s_Layout___add__) (t_Layout___mul__ : BinAt K LC "__mul__" "Layout.__mul__" s_Layout___mul__) (t_Layout___getitem__ : OneAt K LC "__getitem__" "Layout.__getitem__" s_Layout___getitem__) (t__law_mixed : AtK K "_law_mixed" s__law_mixed) (t__law_deck_of : AtK K "_law_deck_of" s__law_deck_of) (t__law_below : AtK K "_law_below" s__law_below) (t__law_pick : AtK K "_law_pick" s__law_pick) (t__law_some_factors : AtK K "_law_some_factors" s__law_some_factors) (t__law_marks_of : AtK K "_law_marks_of" s__law_marks_of) (t__law_all : AtK K "_law_all" s__law_all) (t__law_factor_at : AtK K "_law_factor_at" s__law_factor_at) (t__law_sum_right : AtK K "_law_sum_right" s__law_sum_right) (t__law_product_right : AtK K "_law_product_right" s__law_product_right) (t__law_far_right : AtK K "_law_far_right" s__law_far_right) (t_law : AtK K "law" s_law) (q_MAX_DEGREE : ∃ t, PySem.W.nsIn K mainGlobals "MAX_DEGREE" = some (some (.int (40) t))) (z_all : PySem.W.nsIn K mainGlobals "all" = some none) (z_sum : PySem.W.nsIn K mainGlobals "sum" = some none) (z_max : PySem.W.nsIn K mainGlobals "max" = some none) (z_min : PySem.W.nsIn K mainGlobals "min" = some none) (z_len : PySem.W.nsIn K mainGlobals "len" = some none) (z_abs : PySem.W.nsIn K mainGlobals "abs" = some none) (z_int : PySem.W.nsIn K mainGlobals "int" = some none) (z_str : PySem.W.nsIn K mainGlobals "str" = some none) (z_bool : PySem.W.nsIn K mainGlobals "bool" = some none) (z_repr : PySem.W.nsIn K mainGlobals "repr" = some none) (z_isinstance : PySem.W.nsIn K mainGlobals "isinstance" = some none) (z_list : PySem.W.nsIn K mainGlobals "list" = some none) (z_tuple : PySem.W.nsIn K mainGlobals "tuple" = some none) (z_dict : PySem.W.nsIn K mainGlobals "dict" = some none) (z_range : PySem.W.nsIn K mainGlobals "range" = some none) (z_enumerate : PySem.W.nsIn K mainGlobals "enumerate" = some none) :
    ∃ fd : FuncData, (∀ (s : Shared) (v : Value), BindsTo s fd ⟨[v], []⟩ [("script", v)]) ∧ ∀ base : Heap, K.In base → base.Ns mainGlobals mg → ModsOk base → FnG l.prog w K mg base CX0 6 fa fd ["script"] (toSp K sp_law) := by
  obtain ⟨f, fd, F, hm, hk⟩ := (t_law.m X G).fn
  have e := hfa.symm.trans hm
  cases e
  refine ⟨fd, fun s v => ?_, fun base _ _ hM => ?_⟩
  · obtain ⟨oc, od, kV, doc, pm, an, cdv, ct, osl, rfl, _⟩ := F.ex
    exact .of_eq rfl
  have zb : Blts mg base := ⟨PySem.W.mg_none_of X G z_all, PySem.W.mg_none_of X G z_sum, PySem.W.mg_none_of X G z_max, PySem.W.mg_none_of X G z_min, PySem.W.mg_none_of X G z_len, PySem.W.mg_none_of X G z_abs, PySem.W.mg_none_of X G z_int, PySem.W.mg_none_of X G z_str, PySem.W.mg_none_of X G z_bool, PySem.W.mg_none_of X G z_repr, PySem.W.mg_none_of X G z_isinstance, PySem.W.mg_none_of X G z_list, PySem.W.mg_none_of X G z_tuple, PySem.W.mg_none_of X G z_dict, PySem.W.mg_none_of X G z_range, PySem.W.mg_none_of X G z_enumerate, hM⟩
  have cl_LC := x_Layout.cls
  have mc_LC := PySem.W.mg_of X G x_Layout.at_
  have ic_LC := i_LC
  have na_LC_factors : NoAttr K LC "factors" := n_LC_factors
  have na_LC_key : NoAttr K LC "key" := n_LC_key
  have na_LC_degree : NoAttr K LC "degree" := n_LC_degree
  obtain ⟨_, q_MAX_DEGREE⟩ := q_MAX_DEGREE
  have gl_MAX_DEGREE := PySem.W.mg_of X G q_MAX_DEGREE
  have c_is_integer : KnownP l.prog w K mg base 1 "is_integer" sp_is_integer := kn_is_integer zb (t_is_integer.m X G) 
  have c_trimmed : KnownP l.prog w K mg base 1 "trimmed" sp_trimmed := kn_trimmed zb (t_trimmed.m X G) 
  have c_added : KnownP l.prog w K mg base 1 "added" sp_added := kn_added zb (t_added.m X G) 
  have c_multiplied : KnownP l.prog w K mg base 1 "multiplied" sp_multiplied := kn_multiplied zb (t_multiplied.m X G) 
  have c_factors_of : KnownP l.prog w K mg base 1 "factors_of" (sp_factors_of LC) := kn_factors_of zb (t_factors_of.m X G) cl_LC na_LC_factors ic_LC mc_LC nt_LC_int
  have c_factor_at : KnownP l.prog w K mg base 1 "factor_at" sp_factor_at := kn_factor_at zb (t_factor_at.m X G) 
  have c_into_sum : KnownP l.prog w K mg base 2 "into_sum" (sp_into_sum LC) := kn_into_sum zb (t_into_sum.m X G) cl_LC na_LC_factors c_factor_at
  have c_from_sum : KnownP l.prog w K mg base 2 "from_sum" (sp_from_sum LC) := kn_from_sum zb (t_from_sum.m X G) cl_LC na_LC_factors c_factor_at
  have c_pairs_ahead : KnownP l.prog w K mg base 2 "pairs_ahead" (sp_pairs_ahead LC) := kn_pairs_ahead zb (t_pairs_ahead.m X G) cl_LC na_LC_factors c_factor_at
  have c_into_product : KnownP l.prog w K mg base 3 "into_product" (sp_into_product LC) := kn_into_product zb (t_into_product.m X G) cl_LC na_LC_factors c_pairs_ahead c_factor_at
  have c_from_product : KnownP l.prog w K mg base 3 "from_product" (sp_from_product LC) := kn_from_product zb (t_from_product.m X G) cl_LC na_LC_factors c_factor_at c_pairs_ahead
  have c_Layout : MkP l.prog w K mg base 2 "Layout" LC (sp_Layout___init__ LC) := mk_Layout zb x_Layout mc_LC t_Layout___init__ gl_MAX_DEGREE cl_LC na_LC_key na_LC_factors na_LC_degree c_trimmed c_is_integer
  have b_Layout___add__ : BinP l.prog w K mg base 4 LC "__add__" (sp_Layout___add__ LC) := kb_Layout___add__ zb t_Layout___add__ cl_LC na_LC_factors c_factors_of c_added c_Layout
  have b_Layout___mul__ : BinP l.prog w K mg base 4 LC "__mul__" (sp_Layout___mul__ LC) := kb_Layout___mul__ zb t_Layout___mul__ cl_LC na_LC_factors c_factors_of c_multiplied c_Layout
  have o_Layout___getitem__ : OneP l.prog w K mg base 1 LC "__getitem__" (sp_Layout___getitem__ LC) := ko_Layout___getitem__ zb t_Layout___getitem__ cl_LC na_LC_factors
  have c__law_mixed : KnownP l.prog w K mg base 1 "_law_mixed" sp__law_mixed := kn__law_mixed zb (t__law_mixed.m X G) 
  have c__law_deck_of : KnownP l.prog w K mg base 1 "_law_deck_of" sp__law_deck_of := kn__law_deck_of zb (t__law_deck_of.m X G) 
  have c__law_below : KnownP l.prog w K mg base 2 "_law_below" sp__law_below := kn__law_below zb (t__law_below.m X G) c__law_mixed
  have c__law_pick : KnownP l.prog w K mg base 3 "_law_pick" sp__law_pick := kn__law_pick zb (t__law_pick.m X G) c__law_below
  have c__law_some_factors : KnownP l.prog w K mg base 4 "_law_some_factors" sp__law_some_factors := kn__law_some_factors zb (t__law_some_factors.m X G) c__law_below c__law_pick
  have c__law_marks_of : KnownP l.prog w K mg base 1 "_law_marks_of" sp__law_marks_of := kn__law_marks_of zb (t__law_marks_of.m X G) 
  have c__law_all : KnownP l.prog w K mg base 2 "_law_all" sp__law_all := kn__law_all zb (t__law_all.m X G) c__law_marks_of
  have c__law_factor_at : KnownP l.prog w K mg base 1 "_law_factor_at" sp__law_factor_at := kn__law_factor_at zb (t__law_factor_at.m X G) 
  have c__law_sum_right : KnownP l.prog w K mg base 5 "_law_sum_right" (sp__law_sum_right LC) := kn__law_sum_right zb (t__law_sum_right.m X G) c_from_sum c_into_sum c__law_factor_at c__law_marks_of b_Layout___add__ o_Layout___getitem__
  have c__law_product_right : KnownP l.prog w K mg base 5 "_law_product_right" (sp__law_product_right LC) := kn__law_product_right zb (t__law_product_right.m X G) c_into_product c_from_product c__law_all b_Layout___mul__ o_Layout___getitem__
  have c__law_far_right : KnownP l.prog w K mg base 4 "_law_far_right" (sp__law_far_right LC) := kn__law_far_right zb (t__law_far_right.m X G) c_into_sum c_from_sum c__law_factor_at c_into_product c_from_product c__law_marks_of c__law_below c_Layout
  exact PL.fn (N := n_law) (ps := ["script"]) (pl_law LC) F sc_law fun cdv A out s0 H b ks E room grd hk' => dv_law zb hk' room grd c__law_far_right (by decide) c__law_product_right (by decide) c__law_sum_right (by decide) c__law_below (by decide) c__law_pick (by decide) c__law_some_factors (by decide) c__law_deck_of (by decide) c_Layout (by decide)
end DL
open PySem PySem.W PyProof.Rows
set_option maxRecDepth 100000 in
set_option maxHeartbeats 0 in
theorem PySem.Challenge.cw_layoutswap_k35_whole_records_of_sums_and_holds : PySem.Challenge.rw_layoutswap_k35_whole_records_of_sums_and.Holds := by
  w_on; o_law; k_head; (case hw => w_witness2)
  k_fill
  refine DL.walk_law (l := PySem.Challenge.rw_layoutswap_k35_whole_records_of_sums_and) (n := 63) (k := 6) (sp := DL.sp_law) (x := "script") rfl (by decide) rfl ⟨rfl, by decide, by decide⟩ (by decide +kernel) (fun w h Y => PySem.W.kIn_of Y) ?F ?want
  case want =>
    intro ns Q hl hb hq
    exact ⟨ns, rfl, hl, hq _⟩
  case F =>
    intro w mg fa h KX G hmg
    refine' DL.all_ok KX G hmg ?x_Layout ?i_LC ?nt_LC_int ?n_LC_factors ?n_LC_key ?n_LC_degree ?t_is_integer ?t_trimmed ?t_added ?t_multiplied ?t_factors_of ?t_factor_at ?t_into_sum ?t_from_sum ?t_pairs_ahead ?t_into_product ?t_from_product ?t_Layout___init__ ?t_Layout___add__ ?t_Layout___mul__ ?t_Layout___getitem__ ?t__law_mixed ?t__law_deck_of ?t__law_below ?t__law_pick ?t__law_some_factors ?t__law_marks_of ?t__law_all ?t__law_factor_at ?t__law_sum_right ?t__law_product_right ?t__law_far_right ?t_law ?q_MAX_DEGREE ?z_all ?z_sum ?z_max ?z_min ?z_len ?z_abs ?z_int ?z_str ?z_bool ?z_repr ?z_isinstance ?z_list ?z_tuple ?z_dict ?z_range ?z_enumerate
    (case x_Layout => refine' DL.ClsK.mk ?a ?b ?c ?d ?e ?f ?g; (case a => k_is); (case b => k_is); (case c => k_is); (case d => k_is); (case e => k_is); (case f => k_is); (case g => k_is))
    (case i_LC => refine' DL.isC_mk ?ha ?hn ?ht ?hm ?o1 ?o2 ?n1 ?n2 ?n3 ?n4 ?n5 ?n6 ?n7; (case ha => k_is); (case hn => k_is); (case ht => k_is); (case hm => k_is); (case o1 => k_is); (case o2 => k_is); (case n1 => k_is); (case n2 => k_is); (case n3 => k_is); (case n4 => k_is); (case n5 => k_is); (case n6 => k_is); (case n7 => k_is))
    (case nt_LC_int => k_is)
    (case n_LC_factors => k_is)
    (case n_LC_key => k_is)
    (case n_LC_degree => k_is)
    (case t_is_integer => refine' DL.atK_mk ?a ?l ?c ?k; (case a => k_is); (case l => k_is); (case c => k_is); (case k => k_is))
    (case t_trimmed => refine' DL.atK_mk ?a ?l ?c ?k; (case a => k_is); (case l => k_is); (case c => k_is); (case k => k_is))
    (case t_added => refine' DL.atK_mk ?a ?l ?c ?k; (case a => k_is); (case l => k_is); (case c => k_is); (case k => k_is))
    (case t_multiplied => refine' DL.atK_mk ?a ?l ?c ?k; (case a => k_is); (case l => k_is); (case c => k_is); (case k => k_is))
    (case t_factors_of => refine' DL.atK_mk ?a ?l ?c ?k; (case a => k_is); (case l => k_is); (case c => k_is); (case k => k_is))
    (case t_factor_at => refine' DL.atK_mk ?a ?l ?c ?k; (case a => k_is); (case l => k_is); (case c => k_is); (case k => k_is))
    (case t_into_sum => refine' DL.atK_mk ?a ?l ?c ?k; (case a => k_is); (case l => k_is); (case c => k_is); (case k => k_is))
    (case t_from_sum => refine' DL.atK_mk ?a ?l ?c ?k; (case a => k_is); (case l => k_is); (case c => k_is); (case k => k_is))
    (case t_pairs_ahead => refine' DL.atK_mk ?a ?l ?c ?k; (case a => k_is); (case l => k_is); (case c => k_is); (case k => k_is))
    (case t_into_product => refine' DL.atK_mk ?a ?l ?c ?k; (case a => k_is); (case l => k_is); (case c => k_is); (case k => k_is))
    (case t_from_product => refine' DL.atK_mk ?a ?l ?c ?k; (case a => k_is); (case l => k_is); (case c => k_is); (case k => k_is))
    (case t_Layout___init__ => refine' DL.atMth_mk ?a ?i ?l ?c ?k; (case a => k_is); (case i => k_is); (case l => k_is); (case c => k_is); (case k => k_is))
    (case t_Layout___add__ => refine' DL.binAt_mk ?s ?a ?i ?l ?c ?k; (case s => k_is); (case a => k_is); (case i => k_is); (case l => k_is); (case c => k_is); (case k => k_is))
    (case t_Layout___mul__ => refine' DL.binAt_mk ?s ?a ?i ?l ?c ?k; (case s => k_is); (case a => k_is); (case i => k_is); (case l => k_is); (case c => k_is); (case k => k_is))
    (case t_Layout___getitem__ => refine' DL.oneAt_mk ?a ?i ?j ?l ?c ?k; (case a => k_is); (case i => k_is); (case j => k_is); (case l => k_is); (case c => k_is); (case k => k_is))
    (case t__law_mixed => refine' DL.atK_mk ?a ?l ?c ?k; (case a => k_is); (case l => k_is); (case c => k_is); (case k => k_is))
    (case t__law_deck_of => refine' DL.atK_mk ?a ?l ?c ?k; (case a => k_is); (case l => k_is); (case c => k_is); (case k => k_is))
    (case t__law_below => refine' DL.atK_mk ?a ?l ?c ?k; (case a => k_is); (case l => k_is); (case c => k_is); (case k => k_is))
    (case t__law_pick => refine' DL.atK_mk ?a ?l ?c ?k; (case a => k_is); (case l => k_is); (case c => k_is); (case k => k_is))
    (case t__law_some_factors => refine' DL.atK_mk ?a ?l ?c ?k; (case a => k_is); (case l => k_is); (case c => k_is); (case k => k_is))
    (case t__law_marks_of => refine' DL.atK_mk ?a ?l ?c ?k; (case a => k_is); (case l => k_is); (case c => k_is); (case k => k_is))
    (case t__law_all => refine' DL.atK_mk ?a ?l ?c ?k; (case a => k_is); (case l => k_is); (case c => k_is); (case k => k_is))
    (case t__law_factor_at => refine' DL.atK_mk ?a ?l ?c ?k; (case a => k_is); (case l => k_is); (case c => k_is); (case k => k_is))
    (case t__law_sum_right => refine' DL.atK_mk ?a ?l ?c ?k; (case a => k_is); (case l => k_is); (case c => k_is); (case k => k_is))
    (case t__law_product_right => refine' DL.atK_mk ?a ?l ?c ?k; (case a => k_is); (case l => k_is); (case c => k_is); (case k => k_is))
    (case t__law_far_right => refine' DL.atK_mk ?a ?l ?c ?k; (case a => k_is); (case l => k_is); (case c => k_is); (case k => k_is))
    (case t_law => refine' DL.atK_mk ?a ?l ?c ?k; (case a => k_is); (case l => k_is); (case c => k_is); (case k => k_is))
    (case q_MAX_DEGREE => refine' DL.glI_mk ?a; (case a => k_is))
    (case z_all => k_is)
    (case z_sum => k_is)
    (case z_max => k_is)
    (case z_min => k_is)
    (case z_len => k_is)
    (case z_abs => k_is)
    (case z_int => k_is)
    (case z_str => k_is)
    (case z_bool => k_is)
    (case z_repr => k_is)
    (case z_isinstance => k_is)
    (case z_list => k_is)
    (case z_tuple => k_is)
    (case z_dict => k_is)
    (case z_range => k_is)
    (case z_enumerate => k_is)

