import PyProof.Rows.All
import Wide.All
import OpenK.AllK
import Wide.FinOn
import HandS.ForMost
import HandS.Evl
import HandS.Wide
import HandS.Exc
import HandS.ExcOwn
import HandS.WordsExc
import HandS.TupAny
import HandS.TupMul
import HandS.IsInst
import HandS.Style
import HandS.Dict
import HandS.Text
import HandS.Comp
import HandS.SetKeys
import KE.KDictPairs
import HandS.SetFor
import HandS.Iter
import PyProof.ListStr
import KE.KRevSl
import HandS.Strs
import PyProof.ListNew
import HandS.SetBool
import PyProof.StrBlock2
import KE.GoesEnum
import PyProof.InstEq
import HandS.ClsMeth
import PyProof.FactsDict
import HandS.Property
import PyProof.Rows.RegStrFacts
import HandS.Star
import PyProof.Rows.Range3
import HandS.Ends
import HandS.EndBits
import HandS.Zip
import HandS.OwnEq
import PyProof.NeKinds
import HandS.Flt
import KE.KOpsOwn
import KE.KCallOwn
import HandS.RevRange
import HandS.FStr
import HandS.RaiseMore
import PyProof.EqKinds
import KE.DataCmp
import HandS.TryMany
import HandS.ExcField
import HandS.ExcInit
import HandS.ExcIs
import HandS.ExcValue
import HandS.Deep
import HandS.Words
import PySem.Challenge.RW_layoutswap_k01_errors_and_names
set_option Elab.async false
set_option maxRecDepth 100000
set_option maxHeartbeats 4000000
/-! DL: a layer of data over the hand layer: values as trees (D), objects that one name owns (Own), readings as predicate transformers over them. -/
namespace DL
open PySem PySem.Spec PyProof.Rows L2

/-! ### data -/
inductive D where
  | non | bl (b : Bool) | int (i : Int) | str (x : Str)
  | lst (l : List D) | tup (l : List D) | dct (l : List (Key × D)) | ins (C : Addr) (l : List (Str × D))
  /-- a list that is read alone (the script) -/
  | fzl (l : List D)
  /-- a tuple that an iterator made -/
  | wt (l : List D)
  /-- a built-in type, a class of the program's -/
  | ty (n : String) | cls (C : Addr)
  /-- an exception: without a dict of its own, with one -/
  | exc0 (C : Addr) | exc (C : Addr) (l : List (Str × D))
/-- an object that one name holds alone -/
inductive Own where
  | lst (l : List D) | dct (l : List (Key × D)) | ins (C : Addr) (l : List (Str × D))
def Own.d : Own → D
  | .lst l => .lst l
  | .dct l => .dct l
  | .ins C l => .ins C l
/-- what a slot holds -/
inductive Sl where
  | no | dat (d : D) | own (o : Own)
abbrev Rho := List Sl
/-- what an expression hands on: data, a new object, the object of a slot -/
inductive R where
  | dat (d : D) | own (o : Own) | bor (i : Nat)
/-- what an operation gives: data, a new object, a new tuple -/
inductive Z where
  | d (d : D) | n (o : Own) | t (l : List D) | w (l : List D)
def Z.r : Z → R
  | .d x => .dat x
  | .n o => .own o
  | .t l => .dat (.tup l)
  | .w l => .dat (.wt l)
def lk {α : Type} : Option α → (α → Prop) → Prop
  | some a, k => k a
  | none, _ => False
theorem lk_some {α : Type} {a : α} {k : α → Prop} : lk (some a) k = k a := rfl
theorem lk_get {α : Type} {x : Option α} {k : α → Prop} (h : lk x k) : ∃ a, x = some a ∧ k a := by
  cases x with
  | none => exact h.elim
  | some a => exact ⟨a, rfl, h⟩
def Sl.con : Sl → Option D
  | .no => none
  | .dat d => some d
  | .own o => some o.d
/-- what stands behind an answer just now -/
def con (ρ : Rho) : R → Option D
  | .dat d => some d
  | .own o => some o.d
  | .bor i => match ρ[i]? with
    | some (.own o) => some o.d
    | some (.dat d) => some d
    | _ => none

/-! ### how data lie in a heap -/
def Ex (G H : Hp) : Prop := ∀ a o, G a = some o → H a = some o
theorem Ex.refl (G : Hp) : Ex G G := fun _ _ h => h
theorem Ex.trans {G H J : Hp} (a : Ex G H) (b : Ex H J) : Ex G J := fun x o h => b x o (a x o h)
theorem Ex.gone {G H : Hp} (e : Ex G H) {a : Addr} (h : H a = none) : G a = none := by
  cases q : G a with
  | none => rfl
  | some o => rw [e a o q] at h; cases h
theorem Ex.put {G : Hp} {p : Addr} {o : HO} (h : G p = none) : Ex G (upd G p o) := fun b u q => by
  rw [upd_ne (ne_of_none q h)]; exact q
theorem Ex.both {G H : Hp} {p : Addr} {o : HO} (e : Ex G H) (h : H p = some o) : Ex (upd G p o) H := fun b u q => by
  by_cases hb : b = p
  · subst hb; rw [upd_same] at q; cases q; exact h
  · rw [upd_ne hb] at q; exact e b u q
theorem Ex.over {G H : Hp} {p : Addr} {o : HO} (e : Ex G H) (h : G p = none) : Ex G (upd H p o) := fun b u q => by
  rw [upd_ne (ne_of_none q h)]; exact e b u q
theorem Ex.two {G H : Hp} {p : Addr} {o : HO} (e : Ex G H) : Ex (upd G p o) (upd H p o) := fun b u q => by
  by_cases hb : b = p
  · subst hb; rw [upd_same] at q ⊢; exact q
  · rw [upd_ne hb] at q ⊢; exact e b u q
theorem Ex.rd {G H : Hp} {a : Addr} {u : HO} (e : Ex G H) (h : Rd G a u) : Rd H a u := by
  rcases h with h | ⟨o, h⟩
  · exact .inl (e _ _ h)
  · exact .inr ⟨o, e _ _ h⟩
theorem Ex.sql {K : PySem.W.Frag} {G H : Hp} {a : Addr} {xs : List V} (e : Ex G H) (h : SqL K G a xs) : SqL K H a xs := by
  rcases h with h | h
  · exact .inl (e.rd h)
  · exact .inr h
theorem Ex.sqt {K : PySem.W.Frag} {G H : Hp} {a : Addr} {xs : List V} (e : Ex G H) (h : SqT K G a xs) : SqT K H a xs := by
  rcases h with h | h
  · exact .inl (e.rd h)
  · exact .inr h

/-- a tuple with no dict of its own -/
def SqP (K : PySem.W.Frag) (G : Hp) (a : Addr) (xs : List V) : Prop := SqT K G a xs ∧ ((∃ o u, G a = some (.frz o u) ∧ o.dict = none) ∨ ∃ o, K.lookup a = some o ∧ o.dict = none)
theorem Ex.sqp {K : PySem.W.Frag} {G H : Hp} {a : Addr} {xs : List V} (e : Ex G H) (h : SqP K G a xs) : SqP K H a xs := by
  refine ⟨e.sqt h.1, ?_⟩
  rcases h.2 with ⟨o, u, h1, h2⟩ | h
  · exact .inl ⟨o, u, e _ _ h1, h2⟩
  · exact .inr h
theorem SqP.new {K : PySem.W.Frag} {G : Hp} {p : Addr} {o : Obj} {xs : List V} (h : o.dict = none) : SqP K (upd G p (.frz o (.tup xs))) p xs := ⟨.inl (.inr ⟨o, upd_same⟩), .inl ⟨o, _, upd_same, h⟩⟩

/-- at e: an exception of the class at C, its dict (none | at d) -/
def exg (e C : Addr) (d : Option Addr) : HO := .ext fun h => ∃ o : Obj, h.get? e = some o ∧ o.cls = .ref C ∧ o.dict = d ∧ ∃ vs, o.data = .fields vs
mutual
inductive Rp (K : PySem.W.Frag) (G : Hp) : V → D → Prop
  | non : Rp K G .non .non
  | bl (b : Bool) : Rp K G (.bl b) (.bl b)
  | int (i : Int) : Rp K G (.int i) (.int i)
  | str (x : Str) : Rp K G (.str x) (.str x)
  | lst {a : Addr} {xs : List V} {ds : List D} : G a = some (.lst xs) → RpA K G xs ds → Rp K G (.ref a) (.lst ds)
  | fzl {a : Addr} {xs : List V} {ds : List D} : SqL K G a xs → RpA K G xs ds → Rp K G (.ref a) (.fzl ds)
  | tup {a : Addr} {xs : List V} {ds : List D} : SqP K G a xs → RpA K G xs ds → Rp K G (.ref a) (.tup ds)
  | wt {a : Addr} {xs : List V} {ds : List D} : SqT K G a xs → RpA K G xs ds → Rp K G (.ref a) (.wt ds)
  | ty (n : String) : Rp K G (.ty n) (.ty n)
  | cls (C : Addr) : Rp K G (.ref C) (.cls C)
  | dct {a : Addr} {ks : List (Key × V)} {ds : List (Key × D)} : G a = some (.dK ks) → RpK K G ks ds → Rp K G (.ref a) (.dct ds)
  | ins {a C dx : Addr} {fs : List (Str × V)} {ds : List (Str × D)} : G a = some (.ins C dx fs) → RpF K G fs ds → Rp K G (.ref a) (.ins C ds)
  | exc0 {a C : Addr} : G a = some (exg a C none) → Rp K G (.ref a) (.exc0 C)
  | exc {a C dx : Addr} {fs : List (Str × V)} {ds : List (Str × D)} : G a = some (exg a C (some dx)) → G dx = some (.xd fs) → RpF K G fs ds → Rp K G (.ref a) (.exc C ds)
inductive RpA (K : PySem.W.Frag) (G : Hp) : List V → List D → Prop
  | nil : RpA K G [] []
  | cons {v : V} {vs : List V} {d : D} {ds : List D} : Rp K G v d → RpA K G vs ds → RpA K G (v :: vs) (d :: ds)
inductive RpK (K : PySem.W.Frag) (G : Hp) : List (Key × V) → List (Key × D) → Prop
  | nil : RpK K G [] []
  | cons {k : Key} {v : V} {vs : List (Key × V)} {d : D} {ds : List (Key × D)} : Rp K G v d → RpK K G vs ds → RpK K G ((k, v) :: vs) ((k, d) :: ds)
inductive RpF (K : PySem.W.Frag) (G : Hp) : List (Str × V) → List (Str × D) → Prop
  | nil : RpF K G [] []
  | cons {k : Str} {v : V} {vs : List (Str × V)} {d : D} {ds : List (Str × D)} : Rp K G v d → RpF K G vs ds → RpF K G ((k, v) :: vs) ((k, d) :: ds)
end

section
variable {K : PySem.W.Frag} {G H : Hp}
mutual
theorem Rp.up (e : Ex G H) : ∀ {v : V} {d : D}, Rp K G v d → Rp K H v d
  | _, _, .non => .non
  | _, _, .bl b => .bl b
  | _, _, .int i => .int i
  | _, _, .str x => .str x
  | _, _, .lst h r => .lst (e _ _ h) (RpA.up e r)
  | _, _, .fzl h r => .fzl (e.sql h) (RpA.up e r)
  | _, _, .tup h r => .tup (e.sqp h) (RpA.up e r)
  | _, _, .wt h r => .wt (e.sqt h) (RpA.up e r)
  | _, _, .ty n => .ty n
  | _, _, .cls C => .cls C
  | _, _, .dct h r => .dct (e _ _ h) (RpK.up e r)
  | _, _, .ins h r => .ins (e _ _ h) (RpF.up e r)
  | _, _, .exc0 h => .exc0 (e _ _ h)
  | _, _, .exc h h2 r => .exc (e _ _ h) (e _ _ h2) (RpF.up e r)
theorem RpA.up (e : Ex G H) : ∀ {v : List V} {d : List D}, RpA K G v d → RpA K H v d
  | _, _, .nil => .nil
  | _, _, .cons h r => .cons (Rp.up e h) (RpA.up e r)
theorem RpK.up (e : Ex G H) : ∀ {v : List (Key × V)} {d : List (Key × D)}, RpK K G v d → RpK K H v d
  | _, _, .nil => .nil
  | _, _, .cons h r => .cons (Rp.up e h) (RpK.up e r)
theorem RpF.up (e : Ex G H) : ∀ {v : List (Str × V)} {d : List (Str × D)}, RpF K G v d → RpF K H v d
  | _, _, .nil => .nil
  | _, _, .cons h r => .cons (Rp.up e h) (RpF.up e r)
end
end

inductive RpO (K : PySem.W.Frag) (G : Hp) : HO → Own → Prop
  | lst {xs : List V} {ds : List D} : RpA K G xs ds → RpO K G (.lst xs) (.lst ds)
  | dct {ks : List (Key × V)} {ds : List (Key × D)} : RpK K G ks ds → RpO K G (.dK ks) (.dct ds)
  | ins {C dx : Addr} {fs : List (Str × V)} {ds : List (Str × D)} : RpF K G fs ds → RpO K G (.ins C dx fs) (.ins C ds)
section
variable {K : PySem.W.Frag} {G H : Hp} {h : HO} {o : Own} {a : Addr}
theorem RpO.up (e : Ex G H) (r : RpO K G h o) : RpO K H h o := by
  cases r with
  | lst r => exact .lst (r.up e)
  | dct r => exact .dct (r.up e)
  | ins r => exact .ins (r.up e)
/-- held by nobody alone: data -/
theorem RpO.froz (hn : G a = none) (r : RpO K G h o) : Rp K (upd G a h) (.ref a) o.d := by
  have e : Ex G (upd G a h) := Ex.put hn
  cases r with
  | lst r => exact .lst upd_same (r.up e)
  | dct r => exact .dct upd_same (r.up e)
  | ins r => exact .ins upd_same (r.up e)
end

/-- a value whose own object may be a slot's, its parts data -/
def Rc (K : PySem.W.Frag) (H G : Hp) (v : V) (d : D) : Prop :=
  Rp K G v d ∨ ∃ a h o, v = .ref a ∧ H a = some h ∧ RpO K G h o ∧ o.d = d

/-! ### a frame's slots -/
structure Bas where
  /-- what a def keeps as it is -/
  B : Hp
  /-- the data at the entry -/
  G0 : Hp
  /-- the parameters that are handed on by reference -/
  kp : List (Nat × Addr)
  /-- of these: names for an object that another name, or none, holds -/
  ali : List Nat := []
structure Rel (K : PySem.W.Frag) (b : Bas) (σ : L2.St) (H G : Hp) (ρ : Rho) : Prop where
  sub : Ex G H
  bas : Ex b.B H
  gro : Ex b.G0 G
  prt : ∀ a, b.B a ≠ none → b.G0 a = none → G a = none
  len : σ.length = ρ.length
  dat : ∀ (i : Nat) (d : D), ρ[i]? = some (.dat d) → ∃ v, σ[i]? = some (some v) ∧ Rp K G v d
  own : ∀ (i : Nat) (o : Own), ρ[i]? = some (.own o) → ∃ a h, σ[i]? = some (some (.ref a)) ∧ H a = some h ∧ G a = none ∧ b.B a = none ∧ RpO K G h o
  dis : ∀ (i j : Nat) (o o' : Own) (a : Addr), ρ[i]? = some (.own o) → ρ[j]? = some (.own o') → σ[i]? = some (some (.ref a)) → σ[j]? = some (some (.ref a)) → i = j
  kep : ∀ p ∈ b.kp, σ[p.1]? = some (some (.ref p.2)) ∧ (p.1 ∈ b.ali ∨ ∃ o, ρ[p.1]? = some (.own o))
def Rv (K : PySem.W.Frag) (b : Bas) (σ : L2.St) (J H G : Hp) (ρ : Rho) (v : V) : R → Prop
  | .dat d => Rp K G v d
  | .own o => ∃ a h, v = .ref a ∧ H a = some h ∧ G a = none ∧ b.B a = none ∧ RpO K G h o ∧ (∀ (i : Nat) (o' : Own), ρ[i]? = some (.own o') → σ[i]? ≠ some (some (.ref a))) ∧ J a = none
  | .bor i => σ[i]? = some (some v)
/-- what an expression leaves as it was -/
structure Fm (σ : L2.St) (ρ : Rho) (H G : Hp) (ρ' : Rho) (H' G' : Hp) : Prop where
  ex : Ex G G'
  kp : ∀ (a : Addr) (o : HO), H a = some o → (∀ (i : Nat) (o' : Own), ρ[i]? = some (.own o') → σ[i]? ≠ some (some (.ref a))) → H' a = some o ∧ (G a = none → G' a = none)
  ow : ∀ (i : Nat) (o' : Own), ρ'[i]? = some (.own o') → ∃ o, ρ[i]? = some (.own o)
  dm : ∀ (a : Addr), H' a = none → H a = none
theorem Fm.refl (σ : L2.St) (ρ : Rho) (H G : Hp) : Fm σ ρ H G ρ H G := ⟨Ex.refl G, fun _ _ h _ => ⟨h, fun z => z⟩, fun _ o h => ⟨o, h⟩, fun _ h => h⟩
theorem Fm.trans {σ : L2.St} {ρ ρ1 ρ2 : Rho} {H G H1 G1 H2 G2 : Hp} (x : Fm σ ρ H G ρ1 H1 G1) (y : Fm σ ρ1 H1 G1 ρ2 H2 G2) : Fm σ ρ H G ρ2 H2 G2 where
  ex := x.ex.trans y.ex
  kp := fun a o h n => by
    obtain ⟨h1, g1⟩ := x.kp a o h n
    obtain ⟨h2, g2⟩ := y.kp a o h1 fun i o' q => by
      obtain ⟨o'', q⟩ := x.ow i o' q
      exact n i o'' q
    exact ⟨h2, fun z => g2 (g1 z)⟩
  ow := fun i o' h => by
    obtain ⟨o1, h1⟩ := y.ow i o' h
    exact x.ow i o1 h1
  dm := fun a h => x.dm a (y.dm a h)
section
variable {K : PySem.W.Frag} {b : Bas} {σ : L2.St} {H G : Hp} {ρ : Rho}
/-- an object that no slot holds is data from now on -/
theorem Rel.froz {a : Addr} {h : HO} (r : Rel K b σ H G ρ) (ha : H a = some h) (hg : G a = none) (hb : b.B a = none) (hs : ∀ (i : Nat) (o' : Own), ρ[i]? = some (.own o') → σ[i]? ≠ some (some (.ref a))) : Rel K b σ H (upd G a h) ρ where
  sub := r.sub.both ha
  bas := r.bas
  gro := r.gro.trans (Ex.put hg)
  prt := fun c h1 h2 => by
    rw [upd_ne (fun e => h1 (by rw [e]; exact hb))]; exact r.prt c h1 h2
  len := r.len
  dat := fun i d e => by
    obtain ⟨v, h1, h2⟩ := r.dat i d e
    exact ⟨v, h1, h2.up (Ex.put hg)⟩
  own := fun i o e => by
    obtain ⟨c, hc, h1, h2, h3, h4, h5⟩ := r.own i o e
    have hne : c ≠ a := fun z => by subst z; exact hs i o e h1
    exact ⟨c, hc, h1, h2, by rw [upd_ne hne]; exact h3, h4, h5.up (Ex.put hg)⟩
  dis := r.dis
  kep := r.kep
/-- a new object that nobody tracks yet -/
theorem Rel.new {p : Addr} {h : HO} (r : Rel K b σ H G ρ) (hp : H p = none) : Rel K b σ (upd H p h) G ρ where
  sub := r.sub.over (r.sub.gone hp)
  bas := r.bas.over (r.bas.gone hp)
  gro := r.gro
  prt := r.prt
  len := r.len
  dat := r.dat
  own := fun i o e => by
    obtain ⟨c, hc, h1, h2, h3⟩ := r.own i o e
    exact ⟨c, hc, h1, by rw [upd_ne (ne_of_none h2 hp)]; exact h2, h3⟩
  dis := r.dis
  kep := r.kep
theorem Rel.apart {p : Addr} (r : Rel K b σ H G ρ) (hp : H p = none) : ∀ (i : Nat) (o' : Own), ρ[i]? = some (.own o') → σ[i]? ≠ some (some (.ref p)) := fun i o e z => by
  obtain ⟨c, hc, h1, h2, _⟩ := r.own i o e
  rw [h1] at z
  cases z
  rw [hp] at h2; cases h2
/-- a new object, data at once -/
theorem Rel.newD {p : Addr} {h : HO} (r : Rel K b σ H G ρ) (hp : H p = none) : Rel K b σ (upd H p h) (upd G p h) ρ :=
  (r.new hp).froz upd_same (r.sub.gone hp) (r.bas.gone hp) (r.apart hp)
theorem Rv.rc {v : V} {r : R} {d : D} {J : Hp} (w : Rel K b σ H G ρ) (q : Rv K b σ J H G ρ v r) (e : con ρ r = some d) : Rc K H G v d := by
  cases r with
  | dat d' => cases e; exact .inl q
  | own o =>
    cases e
    obtain ⟨a, h, rfl, h1, h2, h3, h4, h5⟩ := q
    exact .inr ⟨a, h, o, rfl, h1, h4, rfl⟩
  | bor i =>
    have q' : σ[i]? = some (some v) := q
    unfold con at e
    dsimp only at e
    split at e
    · rename_i o ho
      cases e
      obtain ⟨a, h, h1, h2, h3, h4, h5⟩ := w.own i o ho
      rw [h1] at q'
      cases q'
      exact .inr ⟨a, h, o, rfl, h2, h5, rfl⟩
    · rename_i x hx
      cases e
      obtain ⟨u, h1, h2⟩ := w.dat i _ hx
      rw [h1] at q'
      cases q'
      exact .inl h2
    · cases e
/-- an answer that is kept while another expression runs -/
theorem Rv.stay {v : V} {r : R} {J H' G' : Hp} {ρ' : Rho} (q : Rv K b σ J H G ρ v r) (m : Fm σ ρ H G ρ' H' G') : Rv K b σ J H' G' ρ' v r := by
  cases r with
  | dat d => exact Rp.up m.ex q
  | own o =>
    obtain ⟨a, h, rfl, h1, h2, h3, h4, h5, h6⟩ := q
    obtain ⟨z1, z2⟩ := m.kp a h h1 h5
    exact ⟨a, h, rfl, z1, z2 h2, h3, h4.up m.ex, fun i o' z => by
      obtain ⟨o'', z⟩ := m.ow i o' z
      exact h5 i o'' z, h6⟩
  | bor i => exact q
/-- seen from further ahead -/
theorem Rv.back {v : V} {r : R} {J J' : Hp} (q : Rv K b σ J H G ρ v r) (h : ∀ a, J a = none → J' a = none) : Rv K b σ J' H G ρ v r := by
  cases r with
  | dat d => exact q
  | bor i => exact q
  | own o =>
    obtain ⟨a, h', rfl, h1, h2, h3, h4, h5, h6⟩ := q
    exact ⟨a, h', rfl, h1, h2, h3, h4, h5, h _ h6⟩
theorem Rel.newF {p : Addr} {h : HO} (r : Rel K b σ H G ρ) (hp : H p = none) : Fm σ ρ H G ρ (upd H p h) G :=
  ⟨Ex.refl G, fun a o q _ => ⟨by rw [upd_ne (ne_of_none q hp)]; exact q, fun z => z⟩, fun _ o q => ⟨o, q⟩, fun a q => by
    by_cases e : a = p
    · subst e; exact hp
    · rw [upd_ne e] at q; exact q⟩
theorem Rel.newFD {p : Addr} {h : HO} (r : Rel K b σ H G ρ) (hp : H p = none) : Fm σ ρ H G ρ (upd H p h) (upd G p h) :=
  ⟨Ex.put (r.sub.gone hp), fun a o q _ => ⟨by rw [upd_ne (ne_of_none q hp)]; exact q, fun z => by rw [upd_ne (ne_of_none q hp)]; exact z⟩, fun _ o q => ⟨o, q⟩, (r.newF (h := h) hp).dm⟩
end

/-! ### readings over data -/
abbrev TD := Rho → (R → Rho → Prop) → Prop
abbrev TTD := Rho → (Bool → Rho → Prop) → Prop
abbrev TAD := Rho → (List R → Rho → Prop) → Prop
structure EndsD where
  nx : Rho → Prop
  rt : R → Rho → Prop
  bk : Rho → Prop := fun _ => False
  ct : Rho → Prop := fun _ => False
abbrev SD := EndsD → Rho → Prop

def lift (K : PySem.W.Frag) (b : Bas) (td : TD) : TE := fun σ H Q => ∃ G ρ QD, Rel K b σ H G ρ ∧ td ρ QD ∧
  ∀ v H' G' r ρ', Rel K b σ H' G' ρ' → Fm σ ρ H G ρ' H' G' → Rv K b σ H H' G' ρ' v r → QD r ρ' → Q v H'
def liftT (K : PySem.W.Frag) (b : Bas) (td : TTD) : TT := fun σ H Q => ∃ G ρ QD, Rel K b σ H G ρ ∧ td ρ QD ∧
  ∀ c H' G' ρ', Rel K b σ H' G' ρ' → Fm σ ρ H G ρ' H' G' → QD c ρ' → Q c H'
/-- what the answers of an argument list are -/
inductive RvA (K : PySem.W.Frag) (b : Bas) (σ : L2.St) (J H G : Hp) (ρ : Rho) : List V → List R → Prop
  | nil : RvA K b σ J H G ρ [] []
  | cons {v : V} {vs : List V} {r : R} {rs : List R} : Rv K b σ J H G ρ v r → (∀ (a : Addr) (o : Own), r = .own o → v = .ref a → ∀ (j : Nat) (o' : Own), rs[j]? = some (.own o') → vs[j]? ≠ some (.ref a)) →
      RvA K b σ J H G ρ vs rs → RvA K b σ J H G ρ (v :: vs) (r :: rs)
def liftA (K : PySem.W.Frag) (b : Bas) (td : TAD) : TA := fun σ H Q => ∃ G ρ QD, Rel K b σ H G ρ ∧ td ρ QD ∧
  ∀ vs H' G' rs ρ', Rel K b σ H' G' ρ' → Fm σ ρ H G ρ' H' G' → RvA K b σ H H' G' ρ' vs rs → QD rs ρ' → Q vs H'
def liftS (K : PySem.W.Frag) (b : Bas) (sd : SD) : TS := fun D σ H => ∃ G ρ DD, Rel K b σ H G ρ ∧ sd DD ρ ∧
  (∀ σ' H' G' ρ', Rel K b σ' H' G' ρ' → Ex G G' → DD.nx ρ' → D.nx σ' H') ∧
  (∀ v σ' H' G' r ρ' J, Rel K b σ' H' G' ρ' → Ex G G' → Rv K b σ' J H' G' ρ' v r → DD.rt r ρ' → D.rt v H') ∧
  (∀ σ' H' G' ρ', Rel K b σ' H' G' ρ' → Ex G G' → DD.bk ρ' → D.bk σ' H') ∧
  (∀ σ' H' G' ρ', Rel K b σ' H' G' ρ' → Ex G G' → DD.ct ρ' → D.ct σ' H')

abbrev PD (X : Cx) (b : Bas) (e : Expr) (td : TD) : Prop := PE X e (lift X.K b td)
abbrev PTD (X : Cx) (b : Bas) (e : Expr) (td : TTD) : Prop := PT X e (liftT X.K b td)
abbrev PAD (X : Cx) (b : Bas) (es : List Expr) (td : TAD) : Prop := PA X es (liftA X.K b td)
abbrev PSD (X : Cx) (b : Bas) (st : Stmt) (sd : SD) : Prop := PS X st (liftS X.K b sd)
abbrev PSsD (X : Cx) (b : Bas) (st : List Stmt) (sd : SD) : Prop := PSs X st (liftS X.K b sd)

theorem pe_weak {X : Cx} {e : Expr} {t t' : TE} (h : PE X e t) (w : ∀ σ H Q, t' σ H Q → t σ H Q) : PE X e t' := ⟨fun pins s σ H Q I q => h.run pins s σ H Q I (w σ H Q q)⟩
theorem pt_weak {X : Cx} {e : Expr} {t t' : TT} (h : PT X e t) (w : ∀ σ H Q, t' σ H Q → t σ H Q) : PT X e t' := ⟨fun pins s σ H Q I q => h.run pins s σ H Q I (w σ H Q q)⟩
theorem pa_weak {X : Cx} {e : List Expr} {t t' : TA} (h : PA X e t) (w : ∀ σ H Q, t' σ H Q → t σ H Q) : PA X e t' := ⟨fun pos pins s σ H Q I q => h.run pos pins s σ H Q I (w σ H Q q)⟩
theorem ps_weak {X : Cx} {e : Stmt} {t t' : TS} (h : PS X e t) (w : ∀ D σ H, t' D σ H → t D σ H) : PS X e t' := ⟨fun pins s σ H D I q => h.run pins s σ H D I (w D σ H q)⟩
theorem pss_weak {X : Cx} {e : List Stmt} {t t' : TS} (h : PSs X e t) (w : ∀ D σ H, t' D σ H → t D σ H) : PSs X e t' := ⟨fun pins s σ H D I q => h.run pins s σ H D I (w D σ H q)⟩

/-! ### names, constants -/
def wVar (i : Nat) : TD := fun ρ Q => match ρ[i]? with
  | some (.dat d) => Q (.dat d) ρ
  | some (.own _) => Q (.bor i) ρ
  | _ => False
def wC (d : D) : TD := fun ρ Q => Q (.dat d) ρ
section
variable {X : Cx} {b : Bas}
theorem d_var {e : Expr} (i : Nat) (h : PE X e (tVar i)) : PD X b e (wVar i) := pe_weak h fun σ H Q q => by
  obtain ⟨G, ρ, QD, w, q, k⟩ := q
  unfold wVar at q
  split at q
  · rename_i d e
    obtain ⟨v, h1, h2⟩ := w.dat i d e
    exact ⟨v, h1, k v H G (.dat d) ρ w (Fm.refl σ ρ H G) h2 q⟩
  · rename_i o e
    obtain ⟨a, h, h1, h2⟩ := w.own i o e
    exact ⟨.ref a, h1, k _ H G (.bor i) ρ w (Fm.refl σ ρ H G) h1 q⟩
  · exact q.elim
def vD : D → Option V
  | .non => some .non
  | .bl a => some (.bl a)
  | .int i => some (.int i)
  | .str x => some (.str x)
  | .ty n => some (.ty n)
  | .cls C => some (.ref C)
  | _ => none
theorem rp_vD {K : PySem.W.Frag} {G : Hp} {v : V} {d : D} (h : vD d = some v) : Rp K G v d := by
  cases d <;> cases h
  · exact .non
  · exact .bl _
  · exact .int _
  · exact .str _
  · exact .ty _
  · exact .cls _
theorem d_c {e : Expr} {v : V} (d : D) (h : PE X e (tC v)) (hv : vD d = some v := by rfl) : PD X b e (wC d) := pe_weak h fun σ H Q q => by
  obtain ⟨G, ρ, QD, w, q, k⟩ := q
  exact k v H G (.dat d) ρ w (Fm.refl σ ρ H G) (rp_vD hv) q
end

/-! ### operations on values -/
/-- what comes of an operation -/
def Out (K : PySem.W.Frag) (H G : Hp) (v : V) (H' : Hp) : Z → Prop
  | .d x => H' = H ∧ Rp K G v x
  | .n o => ∃ p h, v = .ref p ∧ H p = none ∧ H' = upd H p h ∧ RpO K G h o
  | .t l => (∃ p o xs, v = .ref p ∧ o.dict = none ∧ H p = none ∧ H' = upd H p (.frz o (.tup xs)) ∧ RpA K G xs l) ∨ H' = H ∧ Rp K G v (.tup l)
  | .w l => ∃ p xs, v = .ref p ∧ H p = none ∧ H' = upd H p (.tup xs) ∧ RpA K G xs l
theorem Out.go {K : PySem.W.Frag} {b : Bas} {σ : L2.St} {H G H' : Hp} {ρ : Rho} {v : V} {z : Z} (w : Rel K b σ H G ρ) (h : Out K H G v H' z) : ∃ G', Rel K b σ H' G' ρ ∧ Fm σ ρ H G ρ H' G' ∧ Rv K b σ H H' G' ρ v z.r := by
  cases z with
  | d d =>
    obtain ⟨rfl, h⟩ := h
    exact ⟨G, w, Fm.refl σ ρ H' G, h⟩
  | n o =>
    obtain ⟨p, h, rfl, hp, rfl, r⟩ := h
    exact ⟨G, w.new hp, w.newF hp, p, h, rfl, upd_same, w.sub.gone hp, w.bas.gone hp, r, w.apart hp, hp⟩
  | t l =>
    rcases h with ⟨p, o, xs, rfl, ho, hp, rfl, r⟩ | ⟨rfl, h⟩
    · have e : Ex G (upd G p (.frz o (.tup xs))) := Ex.put (w.sub.gone hp)
      exact ⟨upd G p (.frz o (.tup xs)), w.newD hp, w.newFD hp, .tup (SqP.new ho) (r.up e)⟩
    · exact ⟨G, w, Fm.refl σ ρ H' G, h⟩
  | w l =>
    obtain ⟨p, xs, rfl, hp, rfl, r⟩ := h
    have e : Ex G (upd G p (.tup xs)) := Ex.put (w.sub.gone hp)
    exact ⟨upd G p (.tup xs), w.newD hp, w.newFD hp, .wt (.inl (.inl upd_same)) (r.up e)⟩
/-- a two-place reading does at least what g tells -/
def Op2 (K : PySem.W.Frag) (r : R2) (g : D → D → Option Z) : Prop := ∀ (H G : Hp) (x y : V) (d e : D) (z : Z) (Q : VK), Ex G H → Rc K H G x d → Rc K H G y e → g d e = some z → (∀ v H', Out K H G v H' z → Q v H') → r x y H Q
def wOp (g : D → D → Option Z) (ta tb : TD) : TD := fun ρ Q => ta ρ fun r1 ρ1 => tb ρ1 fun r2 ρ2 => lk (con ρ2 r1) fun d1 => lk (con ρ2 r2) fun d2 => lk (g d1 d2) fun z => Q z.r ρ2
def wUn (g : D → Option Z) (ta : TD) : TD := fun ρ Q => ta ρ fun r1 ρ1 => lk (con ρ1 r1) fun d1 => lk (g d1) fun z => Q z.r ρ1
theorem op_go {K : PySem.W.Frag} {b : Bas} {r : R2} {g : D → D → Option Z} (hr : Op2 K r g) {ta tb : TD} {σ : L2.St} {H : Hp} {Q : VK} (q : lift K b (wOp g ta tb) σ H Q) : tOp r (lift K b ta) (lift K b tb) σ H Q := by
  obtain ⟨G, ρ, QD, w, q, k⟩ := q
  refine ⟨G, ρ, _, w, q, fun v H1 G1 r1 ρ1 w1 m1 q1 z1 => ?_⟩
  refine ⟨G1, ρ1, _, w1, z1, fun u H2 G2 r2 ρ2 w2 m2 q2 z2 => ?_⟩
  obtain ⟨d1, c1, z2⟩ := lk_get z2
  obtain ⟨d2, c2, z2⟩ := lk_get z2
  obtain ⟨z, cz, z2⟩ := lk_get z2
  refine hr H2 G2 v u d1 d2 z Q w2.sub ((q1.stay m2).rc w2 c1) (q2.rc w2 c2) cz fun v' H' o => ?_
  obtain ⟨G', w', m', q'⟩ := o.go w2
  exact k v' H' G' _ ρ2 w' ((m1.trans m2).trans m') (q'.back fun a z => (m1.trans m2).dm a z) z2
section
variable {X : Cx} {b : Bas} {ea eb : Expr} {ta tb : TD} {pos : Pos}
theorem d_op {op : Operator} {r : R2} {g : D → D → Option Z} (ho : OpR X (binaryOp op) r) (hr : Op2 X.K r g) (ha : PD X b ea ta) (hb : PD X b eb tb) : PD X b (.BinOp ea op eb pos) (wOp g ta tb) :=
  pe_weak (pe_op ho ha hb) fun _ _ _ q => op_go hr q
theorem d_cmp {op : CmpOp} {r : R2} {g : D → D → Option Z} (ho : OpR X (compareOp op) r) (hr : Op2 X.K r g) (ha : PD X b ea ta) (hb : PD X b eb tb) (hm : behindInMarks op eb = false) : PD X b (.Compare ea [op] [eb] pos) (wOp g ta tb) :=
  pe_weak (pe_cmpR ho ha hb hm) fun _ _ _ q => op_go hr q
theorem d_ix {r : R2} {g : D → D → Option Z} (ho : IxR X r) (hr : Op2 X.K r g) (ha : PD X b ea ta) (hb : PD X b eb tb) (hs : PlainIx eb := by intro _ _; rfl) : PD X b (.Subscript ea eb pos) (wOp g ta tb) :=
  pe_weak (pe_ix ho ha hb hs) fun _ _ _ q => op_go hr q
end
end DL

set_option Elab.async false
set_option maxRecDepth 100000
set_option maxHeartbeats 4000000
/-! DL2: giving a slot's object up, tests, argument lists, statements, defs by promises over data. -/
namespace DL
open PySem PySem.Spec PyProof.Rows L2

/-! ### a slot's object given up -/
def frz (ks : List Nat) (r : R) (ρ : Rho) : Option (D × Rho) := match r with
  | .dat x => some (x, ρ)
  | .own o => some (o.d, ρ)
  | .bor i => if i ∈ ks then none else match ρ[i]? with
    | some (.own o) => some (o.d, ρ.set i (.dat o.d))
    | some (.dat x) => some (x, ρ)
    | _ => none
def frzs (ks : List Nat) : List R → Rho → Option (List D × Rho)
  | [], ρ => some ([], ρ)
  | r :: rs, ρ => (frz ks r ρ).bind fun p => (frzs ks rs p.2).map fun q => (p.1 :: q.1, q.2)

section
variable {K : PySem.W.Frag} {b : Bas} {σ : L2.St} {H G : Hp} {ρ : Rho}
theorem Rel.give {i : Nat} {o : Own} {a : Addr} {h : HO} (w : Rel K b σ H G ρ) (hr : ρ[i]? = some (.own o)) (ha : σ[i]? = some (some (.ref a))) (hh : H a = some h) (hk : ∀ p ∈ b.kp, p.1 ≠ i) :
    Rel K b σ H (upd G a h) (ρ.set i (.dat o.d)) ∧ Ex G (upd G a h) ∧ Rp K (upd G a h) (.ref a) o.d := by
  obtain ⟨a', h', q1, q2, q3, q4, q5⟩ := w.own i o hr
  have ea : a' = a := by rw [ha] at q1; cases q1; rfl
  subst ea
  have eh : h' = h := by rw [hh] at q2; cases q2; rfl
  subst eh
  have il : i < ρ.length := (List.getElem?_eq_some_iff.mp hr).1
  have e : Ex G (upd G a' h') := Ex.put q3
  have fz := q5.froz q3
  refine ⟨⟨w.sub.both hh, w.bas, w.gro.trans e, fun c h1 h2 => ?_, ?_, fun j d hj => ?_, fun j o' hj => ?_, fun j k o1 o2 c h1 h2 h3 h4 => ?_, fun p hp => ?_⟩, e, fz⟩
  · rw [upd_ne (fun z => h1 (by rw [z]; exact q4))]; exact w.prt c h1 h2
  · rw [List.length_set]; exact w.len
  · by_cases hji : j = i
    · subst hji
      rw [List.getElem?_set_self il] at hj
      cases hj
      exact ⟨_, ha, fz⟩
    · rw [List.getElem?_set_ne (Ne.symm hji)] at hj
      obtain ⟨v, z1, z2⟩ := w.dat j d hj
      exact ⟨v, z1, z2.up e⟩
  · by_cases hji : j = i
    · subst hji
      rw [List.getElem?_set_self il] at hj
      cases hj
    · rw [List.getElem?_set_ne (Ne.symm hji)] at hj
      obtain ⟨c, hc, z1, z2, z3, z4, z5⟩ := w.own j o' hj
      have hne : c ≠ a' := fun z => by subst z; exact hji (w.dis j i o' o c hj hr z1 ha)
      exact ⟨c, hc, z1, z2, by rw [upd_ne hne]; exact z3, z4, z5.up e⟩
  · have n1 : j ≠ i := fun z => by subst z; rw [List.getElem?_set_self il] at h1; cases h1
    have n2 : k ≠ i := fun z => by subst z; rw [List.getElem?_set_self il] at h2; cases h2
    rw [List.getElem?_set_ne (Ne.symm n1)] at h1
    rw [List.getElem?_set_ne (Ne.symm n2)] at h2
    exact w.dis j k o1 o2 c h1 h2 h3 h4
  · obtain ⟨z1, z0 | ⟨o', z2⟩⟩ := w.kep p hp
    · exact ⟨z1, .inl z0⟩
    · exact ⟨z1, .inr ⟨o', by rw [List.getElem?_set_ne (Ne.symm (hk p hp))]; exact z2⟩⟩
theorem Rel.frz {ks : List Nat} {r : R} {v : V} {d : D} {ρ0 ρ' : Rho} {J Z : Hp} (w : Rel K b σ H G ρ) (hk : b.kp.map (·.1) = ks) (m : Fm σ ρ0 J Z ρ H G) (q : Rv K b σ J H G ρ v r) (e : DL.frz ks r ρ = some (d, ρ')) :
    ∃ G', Rel K b σ H G' ρ' ∧ Fm σ ρ0 J Z ρ' H G' ∧ Ex G G' ∧ Rp K G' v d ∧ (G' = G ∨ ∃ a h, v = .ref a ∧ G' = upd G a h ∧ ((∃ o, r = .own o) ∨ ∃ i o, r = .bor i ∧ ρ[i]? = some (.own o))) ∧ ∀ (i : Nat) (o' : Own), ρ'[i]? = some (.own o') → ρ[i]? = some (.own o') := by
  cases r with
  | dat x =>
    cases e
    exact ⟨G, w, m, Ex.refl G, q, .inl rfl, fun _ _ h => h⟩
  | own o =>
    cases e
    obtain ⟨a, h, rfl, h1, h2, h3, h4, h5, h6⟩ := q
    have x : Ex G (upd G a h) := Ex.put h2
    refine ⟨upd G a h, w.froz h1 h2 h3 h5, ⟨m.ex.trans x, fun c u z n => ?_, m.ow, m.dm⟩, x, h4.froz h2, .inr ⟨a, h, rfl, rfl, .inl ⟨o, rfl⟩⟩, fun _ _ h => h⟩
    · obtain ⟨y1, y2⟩ := m.kp c u z n
      exact ⟨y1, fun y => by rw [upd_ne (ne_of_none z h6)]; exact y2 y⟩
  | bor i =>
    have q' : σ[i]? = some (some v) := q
    unfold DL.frz at e
    dsimp only at e
    split at e
    · cases e
    · rename_i hi
      split at e
      · rename_i o ho
        cases e
        obtain ⟨a, h, h1, h2, h3, h4, h5⟩ := w.own i o ho
        rw [h1] at q'
        cases q'
        have il : i < ρ.length := (List.getElem?_eq_some_iff.mp ho).1
        have sub : ∀ (j : Nat) (o' : Own), (ρ.set i (.dat o.d))[j]? = some (.own o') → ρ[j]? = some (.own o') := fun j o' z => by
          by_cases hj : j = i
          · subst hj; rw [List.getElem?_set_self il] at z; cases z
          · rw [List.getElem?_set_ne (Ne.symm hj)] at z; exact z
        have x : Ex G (upd G a h) := Ex.put h3
        refine ⟨upd G a h, (w.give ho h1 h2 fun p hp z => hi ?_).1, ⟨m.ex.trans x, fun c u z n => ?_, fun j o' z => m.ow j o' (sub j o' z), m.dm⟩, x, h5.froz h3, .inr ⟨a, h, rfl, rfl, .inr ⟨i, o, rfl, ho⟩⟩, sub⟩
        · rw [← hk, ← z]
          exact List.mem_map_of_mem hp
        · obtain ⟨y1, y2⟩ := m.kp c u z n
          refine ⟨y1, fun y => ?_⟩
          have hne : c ≠ a := fun ca => by
            subst ca
            obtain ⟨o0, ho0⟩ := m.ow i o ho
            exact n i o0 ho0 h1
          rw [upd_ne hne]; exact y2 y
      · rename_i x hx
        cases e
        obtain ⟨u, h1, h2⟩ := w.dat i _ hx
        rw [h1] at q'
        cases q'
        exact ⟨G, w, m, Ex.refl G, h2, .inl rfl, fun _ _ h => h⟩
      · cases e
theorem RvA.up {vs : List V} {rs : List R} {J H' G' : Hp} {ρ' : Rho} (m : Fm σ ρ H G ρ' H' G') (q : RvA K b σ J H G ρ vs rs) : RvA K b σ J H' G' ρ' vs rs := by
  induction q with
  | nil => exact .nil
  | cons h1 h2 _ ih => exact .cons (h1.stay m) h2 ih
/-- the other answers, behind a giving-up -/
theorem Rv.past {J : Hp} {G' : Hp} {ρ' : Rho} {u : V} {r : R} (x : Ex G G') (s : ∀ (i : Nat) (o' : Own), ρ'[i]? = some (.own o') → ρ[i]? = some (.own o'))
    (d : ∀ (a : Addr) (o : Own), r = .own o → u = .ref a → G' a = none) (q : Rv K b σ J H G ρ u r) : Rv K b σ J H G' ρ' u r := by
  cases r with
  | dat y => exact Rp.up x q
  | bor i => exact q
  | own o =>
    obtain ⟨a, h, rfl, h1, h2, h3, h4, h5, h6⟩ := q
    exact ⟨a, h, rfl, h1, d a o rfl rfl, h3, h4.up x, fun i o' z => h5 i o' (s i o' z), h6⟩
theorem RvA.past {J : Hp} {G' : Hp} {ρ' : Rho} (x : Ex G G') (s : ∀ (i : Nat) (o' : Own), ρ'[i]? = some (.own o') → ρ[i]? = some (.own o')) :
    ∀ {vs : List V} {rs : List R}, RvA K b σ J H G ρ vs rs → (∀ (a : Addr) (j : Nat) (o' : Own), rs[j]? = some (.own o') → vs[j]? = some (.ref a) → G' a = none) → RvA K b σ J H G' ρ' vs rs
  | _, _, .nil, _ => .nil
  | _, _, .cons h1 h2 h3, d => .cons (h1.past x s fun a o e1 e2 => d a 0 o (by rw [e1]; rfl) (by rw [e2]; rfl)) h2 (RvA.past x s h3 fun a j o' z1 z2 => d a (j + 1) o' z1 z2)
theorem RvA.backA {J J' : Hp} (h : ∀ a, J a = none → J' a = none) : ∀ {vs : List V} {rs : List R}, RvA K b σ J H G ρ vs rs → RvA K b σ J' H G ρ vs rs
  | _, _, .nil => .nil
  | _, _, .cons h1 h2 h3 => .cons (h1.back h) h2 (RvA.backA h h3)
theorem RvA.at {J : Hp} : ∀ {vs : List V} {rs : List R}, RvA K b σ J H G ρ vs rs → ∀ {j : Nat} {r : R} {v : V}, rs[j]? = some r → vs[j]? = some v → Rv K b σ J H G ρ v r
  | _, _, .nil, j, r, v, h, _ => by simp at h
  | _, _, .cons h1 _ _, 0, r, v, e1, e2 => by cases e1; cases e2; exact h1
  | _, _, .cons _ _ h3, j + 1, r, v, e1, e2 => RvA.at h3 (j := j) (by simpa using e1) (by simpa using e2)
theorem Rel.frzs {ks : List Nat} (hk : b.kp.map (·.1) = ks) {ρ0 : Rho} {J Z : Hp} : ∀ {rs : List R} {vs : List V} {ds : List D} {G : Hp} {ρ ρ' : Rho}, Rel K b σ H G ρ → Fm σ ρ0 J Z ρ H G → RvA K b σ J H G ρ vs rs → DL.frzs ks rs ρ = some (ds, ρ') →
    ∃ G', Rel K b σ H G' ρ' ∧ Fm σ ρ0 J Z ρ' H G' ∧ RpA K G' vs ds ∧ Ex G G'
  | [], vs, ds, G, ρ, ρ', w, m, q, e => by
    cases q
    cases e
    exact ⟨G, w, m, .nil, Ex.refl G⟩
  | r :: rs, vs, ds, G, ρ, ρ', w, m, q, e => by
    cases q with
    | cons q1 q2 q3 =>
      rename_i v vs
      unfold DL.frzs at e
      cases e1 : DL.frz ks r ρ with
      | none => rw [e1] at e; cases e
      | some p =>
        obtain ⟨d, ρ1⟩ := p
        rw [e1] at e
        obtain ⟨G1, w1, m1, x1, r1, n1, s1⟩ := w.frz hk m q1 e1
        have e' : Option.map (fun q : List D × Rho => (d :: q.1, q.2)) (DL.frzs ks rs ρ1) = some (ds, ρ') := e
        cases e2 : DL.frzs ks rs ρ1 with
        | none => rw [e2] at e'; cases e'
        | some p2 =>
          obtain ⟨ds2, ρ2⟩ := p2
          rw [e2] at e'
          cases e'
          have q3' : RvA K b σ J H G1 ρ1 vs rs := q3.past x1 s1 fun a j o' z1 z2 => by
            obtain ⟨c, h, y1, y2, y3, y4, y5, y6, y7⟩ := q3.at z1 z2
            cases y1
            rcases n1 with rfl | ⟨c, h', rfl, rfl, ⟨o, rfl⟩ | ⟨i, o, rfl, ho⟩⟩
            · exact y3
            · rw [upd_ne (fun y => q2 c o rfl rfl j o' z1 (by rw [z2, y]))]; exact y3
            · rw [upd_ne (fun y => y6 i o ho (by rw [y]; exact q1))]; exact y3
          obtain ⟨G2, w2, m2, r2, x2⟩ := Rel.frzs hk w1 m1 q3' e2
          exact ⟨G2, w2, m2, .cons (r1.up x2) r2, x1.trans x2⟩
end

/-! ### truth, tests -/
def truD : D → Option Bool
  | .non => some false
  | .bl c => some c
  | .int i => some (i != 0)
  | .str x => if x.length ≤ sizeLine then some ((x.length : Int) != 0) else none
  | .lst l => some (!l.isEmpty)
  | .tup l => some (!l.isEmpty)
  | .wt l => some (!l.isEmpty)
  | .ty _ => none
  | .cls _ => none
  | .dct l => some (!l.isEmpty)
  | .ins _ _ => none
  | .exc0 _ => none
  | .exc _ _ => none
  | .fzl l => some (!l.isEmpty)
theorem RpA.len {K : PySem.W.Frag} {G : Hp} : ∀ {xs : List V} {ds : List D}, RpA K G xs ds → xs.length = ds.length
  | _, _, .nil => rfl
  | _, _, .cons _ r => congrArg (· + 1) r.len
theorem RpK.len {K : PySem.W.Frag} {G : Hp} : ∀ {xs : List (Key × V)} {ds : List (Key × D)}, RpK K G xs ds → xs.length = ds.length
  | _, _, .nil => rfl
  | _, _, .cons _ r => congrArg (· + 1) r.len
theorem RpA.empty {K : PySem.W.Frag} {G : Hp} {xs : List V} {ds : List D} (r : RpA K G xs ds) : ds.isEmpty = xs.isEmpty := by cases r <;> rfl
theorem RpK.empty {K : PySem.W.Frag} {G : Hp} {xs : List (Key × V)} {ds : List (Key × D)} (r : RpK K G xs ds) : ds.isEmpty = xs.isEmpty := by cases r <;> rfl
theorem truD_ok {K : PySem.W.Frag} {H G : Hp} {v : V} {d : D} {c : Bool} (e : Ex G H) (r : Rc K H G v d) (h : truD d = some c) : TruV K v H c := by
  rcases r with r | ⟨a, h', o, rfl, h1, r, rfl⟩
  · cases r with
    | non => cases h; exact rfl
    | bl b => cases h; exact rfl
    | int i => cases h; exact rfl
    | str x =>
      unfold truD at h
      dsimp only at h
      split at h
      · rename_i hl
        cases h
        exact ⟨hl, rfl⟩
      · cases h
    | lst q r => cases h; exact .inl ⟨_, SqL.of (e _ _ q), by rw [r.empty]⟩
    | fzl q r => cases h; exact .inl ⟨_, e.sql q, by rw [r.empty]⟩
    | tup q r => cases h; exact .inr (.inl ⟨_, e.sqt q.1, by rw [r.empty]⟩)
    | wt q r => cases h; exact .inr (.inl ⟨_, e.sqt q, by rw [r.empty]⟩)
    | dct q r => cases h; exact .inr (.inr ⟨_, e _ _ q, by rw [r.empty]⟩)
    | ins q r => cases h
    | ty n => cases h
    | cls C => cases h
    | exc0 q => cases h
    | exc q q2 r => cases h
  · cases r with
    | lst r => cases h; exact .inl ⟨_, .inl (.inl h1), by rw [r.empty]⟩
    | dct r => cases h; exact .inr (.inr ⟨_, h1, by rw [r.empty]⟩)
    | ins r => cases h
def wTr (ta : TD) : TTD := fun ρ Q => ta ρ fun r ρ1 => lk (con ρ1 r) fun d => lk (truD d) fun c => Q c ρ1
def wAnd (t u : TTD) : TTD := fun ρ Q => t ρ fun c ρ1 => if c = true then u ρ1 Q else Q false ρ1
def wOr (t u : TTD) : TTD := fun ρ Q => t ρ fun c ρ1 => if c = true then Q true ρ1 else u ρ1 Q
def wNot (t : TTD) : TTD := fun ρ Q => t ρ fun c ρ1 => Q (!c) ρ1
def wIf (t : TTD) (ta tb : TD) : TD := fun ρ Q => t ρ fun c ρ1 => if c = true then ta ρ1 Q else tb ρ1 Q
def bD : D → Option Bool
  | .bl c => some c
  | _ => none
def wAndV (ta tb : TD) : TD := fun ρ Q => ta ρ fun r ρ1 => lk ((con ρ1 r).bind bD) fun c => if c = true then tb ρ1 Q else Q (.dat (.bl false)) ρ1
def wOrV (ta tb : TD) : TD := fun ρ Q => ta ρ fun r ρ1 => lk ((con ρ1 r).bind bD) fun c => if c = true then Q (.dat (.bl true)) ρ1 else tb ρ1 Q
def wNotV (ta : TD) : TD := fun ρ Q => ta ρ fun r ρ1 => lk ((con ρ1 r).bind bD) fun c => Q (.dat (.bl (!c))) ρ1
theorem bD_ok {K : PySem.W.Frag} {b : Bas} {σ : L2.St} {J H G : Hp} {ρ : Rho} {v : V} {r : R} {c : Bool} (w : Rel K b σ H G ρ) (q : Rv K b σ J H G ρ v r) (h : (con ρ r).bind bD = some c) : v = .bl c := by
  cases e : con ρ r with
  | none => rw [e] at h; cases h
  | some d =>
    rw [e] at h
    have h' : bD d = some c := h
    cases d <;> cases h'
    rcases q.rc w e with r | ⟨a, h', o, rfl, h1, r, z⟩
    · cases r; rfl
    · cases o <;> cases z
section
variable {X : Cx} {b : Bas} {ea eb ec : Expr} {ta tb : TD} {tt tu : TTD} {pos : Pos} {rest : List Expr}
abbrev PWD (X : Cx) (b : Bas) (e : Expr) (td : TTD) : Prop := PW X e (liftT X.K b td)
theorem pw_weak {e : Expr} {t t' : TT} (h : PW X e t) (w : ∀ σ H Q, t' σ H Q → t σ H Q) : PW X e t' := ⟨fun wh pins s σ H Q I q => h.run wh pins s σ H Q I (w σ H Q q)⟩
theorem t_tr (ha : PD X b ea ta) (he : ∀ whole, isTrue ea X.env whole = (do let v ← whole; standAt ea.pos; holding [v] (truthy v)) := by intro _; rfl) : PTD X b ea (wTr ta) := pt_weak (pt_truth ha he) fun σ H Q q => by
  obtain ⟨G, ρ, QD, w, q, k⟩ := q
  refine ⟨G, ρ, _, w, q, fun v H1 G1 r ρ1 w1 e1 q1 z => ?_⟩
  obtain ⟨d, c1, z⟩ := lk_get z
  obtain ⟨c, c2, z⟩ := lk_get z
  exact ⟨c, truD_ok w1.sub (q1.rc w1 c1) c2, k c H1 G1 ρ1 w1 e1 z⟩
theorem and_go {K : PySem.W.Frag} {σ : L2.St} {H : Hp} {Q : Bool → Hp → Prop} (q : liftT K b (wAnd tt tu) σ H Q) : tAnd (liftT K b tt) (liftT K b tu) σ H Q := by
  obtain ⟨G, ρ, QD, w, q, k⟩ := q
  refine ⟨G, ρ, _, w, q, fun c H1 G1 ρ1 w1 e1 z => ?_⟩
  cases c with
  | true =>
    rw [if_pos rfl] at z ⊢
    exact ⟨G1, ρ1, QD, w1, z, fun c H2 G2 ρ2 w2 e2 z2 => k c H2 G2 ρ2 w2 (e1.trans e2) z2⟩
  | false =>
    rw [if_neg Bool.false_ne_true] at z ⊢
    exact k false H1 G1 ρ1 w1 e1 z
theorem or_go {K : PySem.W.Frag} {σ : L2.St} {H : Hp} {Q : Bool → Hp → Prop} (q : liftT K b (wOr tt tu) σ H Q) : tOr (liftT K b tt) (liftT K b tu) σ H Q := by
  obtain ⟨G, ρ, QD, w, q, k⟩ := q
  refine ⟨G, ρ, _, w, q, fun c H1 G1 ρ1 w1 e1 z => ?_⟩
  cases c with
  | true =>
    rw [if_pos rfl] at z ⊢
    exact k true H1 G1 ρ1 w1 e1 z
  | false =>
    rw [if_neg Bool.false_ne_true] at z ⊢
    exact ⟨G1, ρ1, QD, w1, z, fun c H2 G2 ρ2 w2 e2 z2 => k c H2 G2 ρ2 w2 (e1.trans e2) z2⟩
theorem tw_and1 (ha : PTD X b ea tt) : PWD X b (.BoolOp .And [ea] pos) tt := pw_and1 ha
theorem tw_or1 (ha : PTD X b ea tt) : PWD X b (.BoolOp .Or [ea] pos) tt := pw_or1 ha
theorem tw_and (ha : PTD X b ea tt) (hb : PWD X b (.BoolOp .And (eb :: rest) pos) tu) : PWD X b (.BoolOp .And (ea :: eb :: rest) pos) (wAnd tt tu) := pw_weak (pw_and ha hb) fun _ _ _ q => and_go q
theorem tw_or (ha : PTD X b ea tt) (hb : PWD X b (.BoolOp .Or (eb :: rest) pos) tu) : PWD X b (.BoolOp .Or (ea :: eb :: rest) pos) (wOr tt tu) := pw_weak (pw_or ha hb) fun _ _ _ q => or_go q
theorem t_w (h : PWD X b ea tt) : PTD X b ea tt := h.pt
theorem t_not (ha : PTD X b ea tt) : PTD X b (.UnaryOp .Not ea pos) (wNot tt) := pt_weak (pt_not ha) fun σ H Q q => by
  obtain ⟨G, ρ, QD, w, q, k⟩ := q
  exact ⟨G, ρ, _, w, q, fun c H1 G1 ρ1 w1 e1 z => k _ H1 G1 ρ1 w1 e1 z⟩
theorem d_if (hc : PTD X b ec tt) (ha : PD X b ea ta) (hb : PD X b eb tb) : PD X b (.IfExp ec ea eb pos) (wIf tt ta tb) := pe_weak (pe_ifExp hc ha hb) fun σ H Q q => by
  obtain ⟨G, ρ, QD, w, q, k⟩ := q
  refine ⟨G, ρ, _, w, q, fun c H1 G1 ρ1 w1 e1 z => ?_⟩
  cases c with
  | true =>
    rw [if_pos rfl] at z ⊢
    exact ⟨G1, ρ1, QD, w1, z, fun v H2 G2 r ρ2 w2 e2 q2 z2 => k v H2 G2 r ρ2 w2 (e1.trans e2) (q2.back e1.dm) z2⟩
  | false =>
    rw [if_neg Bool.false_ne_true] at z ⊢
    exact ⟨G1, ρ1, QD, w1, z, fun v H2 G2 r ρ2 w2 e2 q2 z2 => k v H2 G2 r ρ2 w2 (e1.trans e2) (q2.back e1.dm) z2⟩
theorem d_one {op : BoolOp} (h : PD X b ea ta) : PD X b (.BoolOp op [ea] pos) ta := pe_one h
theorem d_and (ha : PD X b ea ta) (hb : PD X b (.BoolOp .And (eb :: rest) pos) tb) : PD X b (.BoolOp .And (ea :: eb :: rest) pos) (wAndV ta tb) := pe_weak (pe_and ha hb) fun σ H Q q => by
  obtain ⟨G, ρ, QD, w, q, k⟩ := q
  refine ⟨G, ρ, _, w, q, fun v H1 G1 r ρ1 w1 e1 q1 z => ?_⟩
  obtain ⟨c, c1, z⟩ := lk_get z
  refine ⟨c, bD_ok w1 q1 c1, ?_⟩
  cases c with
  | true =>
    rw [if_pos rfl] at z ⊢
    exact ⟨G1, ρ1, QD, w1, z, fun v H2 G2 r ρ2 w2 e2 q2 z2 => k v H2 G2 r ρ2 w2 (e1.trans e2) (q2.back e1.dm) z2⟩
  | false =>
    rw [if_neg Bool.false_ne_true] at z ⊢
    exact k _ H1 G1 (.dat (.bl false)) ρ1 w1 e1 (.bl false) z
theorem d_or (ha : PD X b ea ta) (hb : PD X b (.BoolOp .Or (eb :: rest) pos) tb) : PD X b (.BoolOp .Or (ea :: eb :: rest) pos) (wOrV ta tb) := pe_weak (pe_or ha hb) fun σ H Q q => by
  obtain ⟨G, ρ, QD, w, q, k⟩ := q
  refine ⟨G, ρ, _, w, q, fun v H1 G1 r ρ1 w1 e1 q1 z => ?_⟩
  obtain ⟨c, c1, z⟩ := lk_get z
  refine ⟨c, bD_ok w1 q1 c1, ?_⟩
  cases c with
  | true =>
    rw [if_pos rfl] at z ⊢
    exact k _ H1 G1 (.dat (.bl true)) ρ1 w1 e1 (.bl true) z
  | false =>
    rw [if_neg Bool.false_ne_true] at z ⊢
    exact ⟨G1, ρ1, QD, w1, z, fun v H2 G2 r ρ2 w2 e2 q2 z2 => k v H2 G2 r ρ2 w2 (e1.trans e2) (q2.back e1.dm) z2⟩
theorem d_not (ha : PD X b ea ta) : PD X b (.UnaryOp .Not ea pos) (wNotV ta) := pe_weak (pe_not ha) fun σ H Q q => by
  obtain ⟨G, ρ, QD, w, q, k⟩ := q
  refine ⟨G, ρ, _, w, q, fun v H1 G1 r ρ1 w1 e1 q1 z => ?_⟩
  obtain ⟨c, c1, z⟩ := lk_get z
  exact ⟨c, bD_ok w1 q1 c1, k _ H1 G1 (.dat (.bl (!c))) ρ1 w1 e1 (.bl _) z⟩
/-- a chain of two comparisons -/
def wChain (g g' : D → D → Option Z) (ta tb tc : TD) : TD := fun ρ Q => ta ρ fun r1 ρ1 => tb ρ1 fun r2 ρ2 => lk (con ρ2 r1) fun d1 => lk (con ρ2 r2) fun d2 => lk (g d1 d2) fun z =>
  match z with
  | .d (.bl c) => if c = true then tc ρ2 fun r3 ρ3 => lk (con ρ3 r2) fun d2' => lk (con ρ3 r3) fun d3 => lk (g' d2' d3) fun z' => Q z'.r ρ3 else Q (.dat (.bl false)) ρ2
  | _ => False
theorem chain_go {K : PySem.W.Frag} {r r' : R2} {g g' : D → D → Option Z} (hg : Op2 K r g) (hg' : Op2 K r' g') {ta tb tc : TD} {σ : L2.St} {H : Hp} {Q : VK} (q : lift K b (wChain g g' ta tb tc) σ H Q) : tChain r r' (lift K b ta) (lift K b tb) (lift K b tc) σ H Q := by
  obtain ⟨G, ρ, QD, w, q, k⟩ := q
  refine ⟨G, ρ, _, w, q, fun v H1 G1 r1 ρ1 w1 e1 q1 z => ?_⟩
  refine ⟨G1, ρ1, _, w1, z, fun u H2 G2 r2 ρ2 w2 e2 q2 z => ?_⟩
  obtain ⟨d1, c1, z⟩ := lk_get z
  obtain ⟨d2, c2, z⟩ := lk_get z
  obtain ⟨y, cy, z⟩ := lk_get z
  have a1 : Rc K H2 G2 v d1 := (q1.stay e2).rc w2 c1
  refine hg H2 G2 v u d1 d2 y _ w2.sub a1 (q2.rc w2 c2) cy fun v' H' o => ?_
  split at z
  · rename_i c
    obtain ⟨rfl, o⟩ := o
    cases o
    refine ⟨c, rfl, ?_⟩
    cases c with
    | true =>
      rw [if_pos rfl] at z ⊢
      refine ⟨G2, ρ2, _, w2, z, fun t H3 G3 r3 ρ3 w3 e3 q3 z => ?_⟩
      obtain ⟨d2', c2', z⟩ := lk_get z
      obtain ⟨d3, c3, z⟩ := lk_get z
      obtain ⟨y', cy', z⟩ := lk_get z
      have a2 : Rc K H3 G3 u d2' := (q2.stay e3).rc w3 c2'
      refine hg' H3 G3 u t d2' d3 y' Q w3.sub a2 (q3.rc w3 c3) cy' fun v' H' o => ?_
      obtain ⟨G', w', e', q'⟩ := o.go w3
      exact k v' H' G' _ ρ3 w' (((e1.trans e2).trans e3).trans e') (q'.back ((e1.trans e2).trans e3).dm) z
    | false =>
      rw [if_neg Bool.false_ne_true] at z ⊢
      exact k _ H' G2 (.dat (.bl false)) ρ2 w2 (e1.trans e2) (.bl false) z
  · exact z.elim
end

/-! ### argument lists, displays -/
/-- a new tuple, its object known -/
def NewT (H : Hp) (xs : List V) (Q : VK) : Prop := ∀ p o, o.dict = none → H p = none → Q (.ref p) (upd H p (.frz o (.tup xs)))
theorem laidT {X : Cx} {pins : List (Addr × Obj)} {σ : L2.St} {H : Hp} {s : Shared} {xs : List V} {its : List Value} {Q : VK} (I : Inv X pins σ H s) (r : Vals xs its) (hz : xs.length ≤ sizeLine) (q : NewT H xs Q) :
    EP X pins σ Q (.ref s.heap.objs.size) { s with heap := s.heap.push { cls := .type "tuple", data := .seq its.toArray } } :=
  ⟨.ref s.heap.objs.size, _, I.laid (t' := s.toks) (o := .frz { cls := .type "tuple", data := .seq its.toArray } (.tup xs)) (fun b u e => Heap.get?_push_of_some _ e) (Nat.le_refl _) ⟨Heap.get?_push_size _ rfl, hz, its, r, IsTup.new _ _⟩, rfl, q _ _ rfl (I.hok.fresh (Nat.le_refl _))⟩
def tTupP (t : TA) : TE := fun σ H Q => t σ H fun xs H1 => xs.length ≤ sizeLine ∧ NewT H1 xs Q
theorem pe_tupP {X : Cx} {es : List Expr} {t : TA} {pos : Pos} {x1} (h : PA X es t) : PE X (.Tuple es x1 pos) (tTupP t) := by
  refine ⟨fun pins s σ H Q I hq => ?_⟩
  exact wpAny_Tuple_spliced (thn (h.run pos pins s σ H _ I hq) fun us s1 ⟨xs, H1, I1, r, z, q⟩ => ⟨by rw [← r.length]; exact z, laidT I1 r z q⟩)
def wNil : TAD := fun ρ Q => Q [] ρ
def wCons (ta : TD) (tr : TAD) : TAD := fun ρ Q => ta ρ fun r ρ1 => tr ρ1 fun rs ρ2 => Q (r :: rs) ρ2
def wTup (ks : List Nat) (t : TAD) : TD := fun ρ Q => t ρ fun rs ρ1 => lk (frzs ks rs ρ1) fun p => p.1.length ≤ sizeLine ∧ Q (.dat (.tup p.1)) p.2
def wLst (ks : List Nat) (t : TAD) : TD := fun ρ Q => t ρ fun rs ρ1 => lk (frzs ks rs ρ1) fun p => p.1.length ≤ sizeLine ∧ Q (.own (.lst p.1)) p.2
section
variable {X : Cx} {b : Bas} {e : Expr} {es : List Expr} {ta : TD} {t : TAD} {pos : Pos} {ks : List Nat}
theorem a_nil : PAD X b [] wNil := pa_weak pa_nil fun σ H Q q => by
  obtain ⟨G, ρ, QD, w, q, k⟩ := q
  exact k [] H G [] ρ w (Fm.refl σ ρ H G) .nil q
theorem a_cons (ha : PD X b e ta) (hr : PAD X b es t) (hs : starEach (e :: es) X.env = (false, eval e X.env) :: starEach es X.env := by rfl) : PAD X b (e :: es) (wCons ta t) := pa_weak (pa_cons ha hr hs) fun σ H Q q => by
  obtain ⟨G, ρ, QD, w, q, k⟩ := q
  refine ⟨G, ρ, _, w, q, fun v H1 G1 r ρ1 w1 m1 q1 z => ?_⟩
  refine ⟨G1, ρ1, _, w1, z, fun vs H2 G2 rs ρ2 w2 m2 q2 z => ?_⟩
  refine k (v :: vs) H2 G2 (r :: rs) ρ2 w2 (m1.trans m2) (.cons (q1.stay m2) (fun a o e1 e2 j o' z1 z2 => ?_) (RvA.backA m1.dm q2)) z
  subst e1
  obtain ⟨c, h, y1, y2, _⟩ := q1
  rw [e2] at y1
  cases y1
  obtain ⟨c', h', x1, _, _, _, _, _, x7⟩ := q2.at z1 z2
  cases x1
  rw [y2] at x7; cases x7
theorem d_tup {x1} (hk : b.kp.map (·.1) = ks) (h : PAD X b es t) : PD X b (.Tuple es x1 pos) (wTup ks t) := pe_weak (pe_tupP h) fun σ H Q q => by
  obtain ⟨G, ρ, QD, w, q, k⟩ := q
  refine ⟨G, ρ, _, w, q, fun vs H1 G1 rs ρ1 w1 e1 q1 z => ?_⟩
  obtain ⟨p, c1, hl, z⟩ := lk_get z
  obtain ⟨ds, ρ2⟩ := p
  obtain ⟨G2, w2, m2, r2, _⟩ := Rel.frzs hk w1 e1 q1 c1
  refine ⟨by rw [r2.len]; exact hl, fun p o ho hp => ?_⟩
  have x : Ex G2 (upd G2 p (.frz o (.tup vs))) := Ex.put (w2.sub.gone hp)
  exact k _ _ _ (.dat (.tup ds)) ρ2 (w2.newD hp) (m2.trans (w2.newFD hp)) (.tup (SqP.new ho) (r2.up x)) z
theorem d_lst (hk : b.kp.map (·.1) = ks) (h : PAD X b es t) : PD X b (.List es pos) (wLst ks t) := pe_weak (pe_lst h) fun σ H Q q => by
  obtain ⟨G, ρ, QD, w, q, k⟩ := q
  refine ⟨G, ρ, _, w, q, fun vs H1 G1 rs ρ1 w1 e1 q1 z => ?_⟩
  obtain ⟨p, c1, hl, z⟩ := lk_get z
  obtain ⟨ds, ρ2⟩ := p
  obtain ⟨G2, w2, m2, r2, _⟩ := Rel.frzs hk w1 e1 q1 c1
  refine ⟨by rw [r2.len]; exact hl, fun p hp => ?_⟩
  exact k _ _ G2 (.own (.lst ds)) ρ2 (w2.new hp) (m2.trans (w2.newF hp)) ⟨p, _, rfl, upd_same, w2.sub.gone hp, w2.bas.gone hp, .lst r2, w2.apart hp, m2.dm p hp⟩ z
end
end DL

set_option Elab.async false
set_option maxRecDepth 100000
set_option maxHeartbeats 4000000
/-! DL3: statements, targets, loops, list comprehensions over data. -/
namespace DL
open PySem PySem.Spec PyProof.Rows L2

/-! ### slots stored -/
def R.sl : R → Sl
  | .dat d => .dat d
  | .own o => .own o
  | .bor _ => .no
/-- a slot's object that is handed on is given up -/
def thin (ks : List Nat) (r : R) (ρ : Rho) : Option (R × Rho) := match r with
  | .bor i => (frz ks (.bor i) ρ).map fun p => (.dat p.1, p.2)
  | r => some (r, ρ)
def thins (ks : List Nat) : List R → Rho → Option (List R × Rho)
  | [], ρ => some ([], ρ)
  | r :: rs, ρ => (thin ks r ρ).bind fun p => (thins ks rs p.2).map fun q => (p.1 :: q.1, q.2)
def NoB (r : R) : Prop := ∀ i, r ≠ .bor i
theorem nob_dat (d : D) : NoB (.dat d) := fun i z => by cases z
theorem nob_own (o : Own) : NoB (.own o) := fun i z => by cases z
def setV : List Nat → List V → L2.St → L2.St
  | i :: is, v :: vs, σ => setV is vs (σ.set i (some v))
  | _, _, σ => σ
def setR : List Nat → List R → Rho → Rho
  | i :: is, r :: rs, ρ => setR is rs (ρ.set i r.sl)
  | _, _, ρ => ρ
theorem set_at {α : Type} {l : List α} {i j : Nat} {x y : α} (h : (l.set i x)[j]? = some y) : (j = i ∧ y = x ∧ i < l.length) ∨ (j ≠ i ∧ l[j]? = some y) := by
  by_cases hj : j = i
  · subst hj
    have hl : j < l.length := by
      have := (List.getElem?_eq_some_iff.mp h).1
      rw [List.length_set] at this
      exact this
    rw [List.getElem?_set_self hl] at h
    cases h
    exact .inl ⟨rfl, rfl, hl⟩
  · rw [List.getElem?_set_ne (Ne.symm hj)] at h
    exact .inr ⟨hj, h⟩
theorem set_ne {α : Type} {l : List α} {i j : Nat} {x : α} (h : j ≠ i) : (l.set i x)[j]? = l[j]? := List.getElem?_set_ne (Ne.symm h)
theorem set_eq {α : Type} {l : List α} {i : Nat} {x : α} (h : i < l.length) : (l.set i x)[i]? = some x := List.getElem?_set_self h

section
variable {K : PySem.W.Frag} {b : Bas} {σ : L2.St} {H G : Hp} {ρ : Rho}
/-- a slot is stored: data, or a new object -/
theorem Rel.set {i : Nat} {v : V} {r : R} {J : Hp} (w : Rel K b σ H G ρ) (q : Rv K b σ J H G ρ v r) (hr : NoB r) (hk : ∀ p ∈ b.kp, p.1 ≠ i) : Rel K b (σ.set i (some v)) H G (ρ.set i r.sl) := by
  have len : σ.length = ρ.length := w.len
  refine ⟨w.sub, w.bas, w.gro, w.prt, by rw [List.length_set, List.length_set]; exact len, fun j d hj => ?_, fun j o hj => ?_, fun j k o1 o2 c h1 h2 h3 h4 => ?_, fun p hp => ?_⟩
  · rcases set_at hj with ⟨rfl, e, hl⟩ | ⟨hn, hj⟩
    · cases r with
      | dat x => cases e; exact ⟨v, set_eq (by omega), q⟩
      | own o => cases e
      | bor k => cases e
    · obtain ⟨u, z1, z2⟩ := w.dat j d hj
      exact ⟨u, by rw [set_ne hn]; exact z1, z2⟩
  · rcases set_at hj with ⟨rfl, e, hl⟩ | ⟨hn, hj⟩
    · cases r with
      | dat x => cases e
      | bor k => cases e
      | own o' =>
        cases e
        obtain ⟨a, h, rfl, h1, h2, h3, h4, h5, h6⟩ := q
        exact ⟨a, h, set_eq (by omega), h1, h2, h3, h4⟩
    · obtain ⟨a, h, z1, z2⟩ := w.own j o hj
      exact ⟨a, h, by rw [set_ne hn]; exact z1, z2⟩
  · rcases set_at h1 with ⟨rfl, e, hl⟩ | ⟨hn, y1⟩ <;> rcases set_at h2 with ⟨rfl, e', hl'⟩ | ⟨hn', y2⟩
    · rfl
    · rw [set_eq (by omega)] at h3
      rw [set_ne hn'] at h4
      cases r with
      | dat x => cases e
      | bor k => cases e
      | own o' =>
        obtain ⟨a, h, rfl, q1, q2, q3, q4, q5, q6⟩ := q
        cases h3
        exact absurd h4 (q5 k o2 y2)
    · rw [set_eq (by omega)] at h4
      rw [set_ne hn] at h3
      cases r with
      | dat x => cases e'
      | bor k => cases e'
      | own o' =>
        obtain ⟨a, h, rfl, q1, q2, q3, q4, q5, q6⟩ := q
        cases h4
        exact absurd h3 (q5 j o1 y1)
    · rw [set_ne hn] at h3
      rw [set_ne hn'] at h4
      exact w.dis j k o1 o2 c y1 y2 h3 h4
  · obtain ⟨z1, z0 | ⟨o, z2⟩⟩ := w.kep p hp
    · exact ⟨by rw [set_ne (hk p hp)]; exact z1, .inl z0⟩
    · exact ⟨by rw [set_ne (hk p hp)]; exact z1, .inr ⟨o, by rw [set_ne (hk p hp)]; exact z2⟩⟩
/-- the other answers behind a store -/
theorem Rv.set {i : Nat} {v u : V} {r r' : R} {J : Hp} (q : Rv K b σ J H G ρ u r') (hr : NoB r') (p : Rv K b σ J H G ρ v r) (hp : NoB r) (len : σ.length = ρ.length)
    (d : ∀ (a : Addr) (o o' : Own), r = .own o → v = .ref a → r' = .own o' → u ≠ .ref a) : Rv K b (σ.set i (some v)) J H G (ρ.set i r.sl) u r' := by
  cases r' with
  | dat x => exact q
  | bor j => exact absurd rfl (hr j)
  | own o' =>
    obtain ⟨a, h, rfl, h1, h2, h3, h4, h5, h6⟩ := q
    refine ⟨a, h, rfl, h1, h2, h3, h4, fun j o z y => ?_, h6⟩
    rcases set_at z with ⟨rfl, e, hl⟩ | ⟨hn, z⟩
    · rw [set_eq (by omega)] at y
      cases y
      cases r with
      | dat x => cases e
      | bor k => cases e
      | own o1 => exact d a o1 o' rfl rfl rfl rfl
    · rw [set_ne hn] at y
      exact h5 j o z y
theorem RvA.set {i : Nat} {v : V} {r : R} {J : Hp} (p : Rv K b σ J H G ρ v r) (hp : NoB r) (len : σ.length = ρ.length) : ∀ {vs : List V} {rs : List R}, RvA K b σ J H G ρ vs rs → (∀ r ∈ rs, NoB r) →
    (∀ (a : Addr) (o : Own), r = .own o → v = .ref a → ∀ (j : Nat) (o' : Own), rs[j]? = some (.own o') → vs[j]? ≠ some (.ref a)) → RvA K b (σ.set i (some v)) J H G (ρ.set i r.sl) vs rs
  | _, _, .nil, _, _ => .nil
  | _, _, .cons h1 h2 h3, n, d => .cons (h1.set (n _ List.mem_cons_self) p hp len fun a o o' e1 e2 e3 e4 => d a o e1 e2 0 o' (by rw [e3]; rfl) (by rw [e4]; rfl)) h2
      (RvA.set p hp len h3 (fun r hr => n r (List.mem_cons_of_mem _ hr)) fun a o e1 e2 j o' z => d a o e1 e2 (j + 1) o' z)
theorem Rel.sets {J : Hp} : ∀ {is : List Nat} {vs : List V} {rs : List R} {σ : L2.St} {ρ : Rho}, Rel K b σ H G ρ → RvA K b σ J H G ρ vs rs → (∀ r ∈ rs, NoB r) → (∀ i ∈ is, ∀ p ∈ b.kp, p.1 ≠ i) → Rel K b (setV is vs σ) H G (setR is rs ρ)
  | [], _, _, σ, ρ, w, _, _, _ => by unfold setV setR; exact w
  | i :: is, _, _, σ, ρ, w, .nil, _, _ => by unfold setV setR; exact w
  | i :: is, _, _, σ, ρ, w, .cons h1 h2 h3, n, hk => by
    unfold setV setR
    exact Rel.sets (w.set h1 (n _ List.mem_cons_self) (hk i List.mem_cons_self)) (RvA.set h1 (n _ List.mem_cons_self) w.len h3 (fun r hr => n r (List.mem_cons_of_mem _ hr)) fun a o e1 e2 j o' z => h2 a o e1 e2 j o' z)
      (fun r hr => n r (List.mem_cons_of_mem _ hr)) fun j hj => hk j (List.mem_cons_of_mem _ hj)
theorem Rel.thin {ks : List Nat} {r r' : R} {v : V} {ρ' : Rho} {J : Hp} (w : Rel K b σ H G ρ) (hk : b.kp.map (·.1) = ks) (q : Rv K b σ J H G ρ v r) (e : DL.thin ks r ρ = some (r', ρ')) :
    ∃ G', Rel K b σ H G' ρ' ∧ Ex G G' ∧ Rv K b σ J H G' ρ' v r' ∧ NoB r' ∧ (G' = G ∨ ∃ a h, v = .ref a ∧ G' = upd G a h ∧ ∃ i o, r = .bor i ∧ ρ[i]? = some (.own o)) ∧ ∀ (i : Nat) (o' : Own), ρ'[i]? = some (.own o') → ρ[i]? = some (.own o') := by
  cases r with
  | dat x => cases e; exact ⟨G, w, Ex.refl G, q, nob_dat _, .inl rfl, fun _ _ z => z⟩
  | own o => cases e; exact ⟨G, w, Ex.refl G, q, nob_own _, .inl rfl, fun _ _ z => z⟩
  | bor i =>
    unfold DL.thin at e
    dsimp only at e
    cases e1 : DL.frz ks (.bor i) ρ with
    | none => rw [e1] at e; cases e
    | some p =>
      obtain ⟨d, ρ1⟩ := p
      rw [e1] at e
      cases e
      obtain ⟨G1, w1, m1, x1, r1, n1, s1⟩ := w.frz hk (Fm.refl σ ρ H G) (J := H) (v := v) (r := .bor i) q e1
      refine ⟨G1, w1, x1, r1, nob_dat _, ?_, s1⟩
      rcases n1 with z | ⟨a, h, z1, z2, ⟨o, z3⟩ | z3⟩
      · exact .inl z
      · cases z3
      · exact .inr ⟨a, h, z1, z2, z3⟩
theorem Rel.thins {ks : List Nat} (hk : b.kp.map (·.1) = ks) {J : Hp} : ∀ {rs rs' : List R} {vs : List V} {G : Hp} {ρ ρ' : Rho}, Rel K b σ H G ρ → RvA K b σ J H G ρ vs rs → DL.thins ks rs ρ = some (rs', ρ') →
    ∃ G', Rel K b σ H G' ρ' ∧ Ex G G' ∧ RvA K b σ J H G' ρ' vs rs' ∧ (∀ r ∈ rs', NoB r) ∧ (∀ (j : Nat) (o : Own), rs'[j]? = some (.own o) → rs[j]? = some (.own o)) ∧
      (∀ (i : Nat) (o' : Own), ρ'[i]? = some (.own o') → ρ[i]? = some (.own o')) ∧ ∀ a, G a = none → (∀ (i : Nat) (o : Own), ρ[i]? = some (.own o) → σ[i]? ≠ some (some (.ref a))) → G' a = none
  | [], rs', vs, G, ρ, ρ', w, q, e => by
    cases q
    cases e
    exact ⟨G, w, Ex.refl G, .nil, fun _ h => by simp at h, fun _ _ h => h, fun _ _ h => h, fun _ h _ => h⟩
  | r :: rs, rs', vs, G, ρ, ρ', w, q, e => by
    cases q with
    | cons q1 q2 q3 =>
      rename_i v vs
      unfold DL.thins at e
      cases e1 : DL.thin ks r ρ with
      | none => rw [e1] at e; cases e
      | some p =>
        obtain ⟨r1, ρ1⟩ := p
        rw [e1] at e
        obtain ⟨G1, w1, x1, p1, b1, n1, s1⟩ := w.thin hk q1 e1
        have e' : Option.map (fun q : List R × Rho => (r1 :: q.1, q.2)) (DL.thins ks rs ρ1) = some (rs', ρ') := e
        cases e2 : DL.thins ks rs ρ1 with
        | none => rw [e2] at e'; cases e'
        | some p2 =>
          obtain ⟨rs2, ρ2⟩ := p2
          rw [e2] at e'
          cases e'
          have g1 : ∀ a, G a = none → (∀ (i : Nat) (o : Own), ρ[i]? = some (.own o) → σ[i]? ≠ some (some (.ref a))) → G1 a = none := fun a h n => by
            rcases n1 with rfl | ⟨c, h', rfl, rfl, i, o, rfl, ho⟩
            · exact h
            · rw [upd_ne (fun y => n i o ho (by rw [y]; exact q1))]; exact h
          have q3' : RvA K b σ J H G1 ρ1 vs rs := q3.past x1 s1 fun a j o' z1 z2 => by
            obtain ⟨c, h, y1, y2, y3, y4, y5, y6, y7⟩ := q3.at z1 z2
            cases y1
            exact g1 a y3 y6
          obtain ⟨G2, w2, x2, p2, b2, t2, s2, g2⟩ := Rel.thins hk w1 q3' e2
          have rown : ∀ o, r1 = .own o → r = .own o := fun o z => by
            cases r with
            | dat x => cases e1; exact z
            | own o => cases e1; exact z
            | bor i =>
              unfold DL.thin at e1
              dsimp only at e1
              cases e3 : DL.frz ks (.bor i) ρ with
              | none => rw [e3] at e1; cases e1
              | some p => rw [e3] at e1; cases e1; cases z
          refine ⟨G2, w2, x1.trans x2, .cons (p1.past x2 s2 fun a o z1 z2 => ?_) (fun a o z1 z2 j o' z3 => q2 a o (rown o z1) z2 j o' (t2 j o' z3)) p2, fun r' hr' => ?_, fun j o z => ?_, fun i o z => s1 i o (s2 i o z), fun a h n => ?_⟩
          · subst z1
            obtain ⟨c, h, y1, y2, y3, y4, y5, y6, y7⟩ := p1
            rw [z2] at y1
            cases y1
            exact g2 a y3 y6
          · rcases List.mem_cons.mp hr' with rfl | hr'
            · exact b1
            · exact b2 r' hr'
          · cases j with
            | zero => cases z; exact congrArg some (rown o rfl)
            | succ j => exact t2 j o z
          · exact g2 a (g1 a h n) fun i o z => n i o (s1 i o z)
end

/-! ### small statements -/
def wNext : SD := fun DD ρ => DD.nx ρ
def wSeq (s t : SD) : SD := fun DD ρ => s { DD with nx := t DD } ρ
def wBreak : SD := fun DD ρ => DD.bk ρ
def wCont : SD := fun DD ρ => DD.ct ρ
def wDrop (ta : TD) : SD := fun DD ρ => ta ρ fun _ ρ1 => DD.nx ρ1
def wRetN : SD := fun DD ρ => DD.rt (.dat .non) ρ
/-- what is handed back: a slot's object goes with it -/
def outR (ks : List Nat) (r : R) (ρ : Rho) (Q : R → Rho → Prop) : Prop := match r with
  | .bor i => if i ∈ ks then False else match ρ[i]? with
    | some (.own o) => Q (.own o) (ρ.set i .no)
    | some (.dat d) => Q (.dat d) ρ
    | _ => False
  | r => Q r ρ
def wRet (ks : List Nat) (ta : TD) : SD := fun DD ρ => ta ρ fun r ρ1 => outR ks r ρ1 DD.rt
def wIfS (t : TTD) (s u : SD) : SD := fun DD ρ => t ρ fun c ρ1 => if c = true then s DD ρ1 else u DD ρ1
def wAsg (ks : List Nat) (i : Nat) (ta : TD) : SD := fun DD ρ => ta ρ fun r ρ1 => if i ∈ ks then False else lk (thin ks r ρ1) fun p => DD.nx (p.2.set i p.1.sl)
/-- i, j = a, b of plain names -/
def wPar (ks is : List Nat) (ta : TAD) : SD := fun DD ρ => ta ρ fun rs ρ1 => (∀ i ∈ is, i ∉ ks) ∧ rs.length = is.length ∧ lk (thins ks rs ρ1) fun p => DD.nx (setR is p.1 p.2)
section
variable {X : Cx} {b : Bas} {ks : List Nat} {e : Expr} {es : List Expr} {st : Stmt} {rest body els : List Stmt} {ta : TD} {tt : TTD} {s t : SD} {tl : TAD} {pos : Pos}
theorem ss_nil : PSsD X b [] wNext := pss_weak pss_nil fun D σ H q => by
  obtain ⟨G, ρ, DD, w, q, n, _⟩ := q
  exact n σ H G ρ w (Ex.refl G) q
theorem ss_cons (h1 : PSD X b st s) (h2 : PSsD X b rest t) : PSsD X b (st :: rest) (wSeq s t) := pss_weak (pss_cons h1 h2) fun D σ H q => by
  obtain ⟨G, ρ, DD, w, q, n, r, bk, ct⟩ := q
  refine ⟨G, ρ, { DD with nx := t DD }, w, q, fun σ' H' G' ρ' w' x q' => ?_, r, bk, ct⟩
  exact ⟨G', ρ', DD, w', q', fun σ2 H2 G2 ρ2 w2 x2 => n σ2 H2 G2 ρ2 w2 (x.trans x2), fun v σ2 H2 G2 r2 ρ2 J w2 x2 => r v σ2 H2 G2 r2 ρ2 J w2 (x.trans x2), fun σ2 H2 G2 ρ2 w2 x2 => bk σ2 H2 G2 ρ2 w2 (x.trans x2), fun σ2 H2 G2 ρ2 w2 x2 => ct σ2 H2 G2 ρ2 w2 (x.trans x2)⟩
theorem ss_one (h1 : PSD X b st s) : PSsD X b [st] s := pss_one h1
theorem s_expr (he : PD X b e ta) (hs : swapsWith e none pos.line X.env = pure false := by rfl) : PSD X b (.Expr e pos) (wDrop ta) := ps_weak (ps_expr he hs) fun D σ H q => by
  obtain ⟨G, ρ, DD, w, q, n, _⟩ := q
  exact ⟨G, ρ, _, w, q, fun v H1 G1 r ρ1 w1 m1 q1 z => n σ H1 G1 ρ1 w1 m1.ex z⟩
theorem Rel.lose {K : PySem.W.Frag} {σ : L2.St} {H G : Hp} {ρ : Rho} {i : Nat} (w : Rel K b σ H G ρ) (hk : ∀ p ∈ b.kp, p.1 ≠ i) : Rel K b σ H G (ρ.set i .no) := by
  refine ⟨w.sub, w.bas, w.gro, w.prt, by rw [List.length_set]; exact w.len, fun j d hj => ?_, fun j o hj => ?_, fun j k o1 o2 c h1 h2 => ?_, fun p hp => ?_⟩
  · rcases set_at hj with ⟨rfl, e, hl⟩ | ⟨hn, hj⟩
    · cases e
    · exact w.dat j d hj
  · rcases set_at hj with ⟨rfl, e, hl⟩ | ⟨hn, hj⟩
    · cases e
    · exact w.own j o hj
  · rcases set_at h1 with ⟨rfl, e, hl⟩ | ⟨hn, h1⟩
    · cases e
    · rcases set_at h2 with ⟨rfl, e', hl'⟩ | ⟨hn', h2⟩
      · cases e'
      · exact w.dis j k o1 o2 c h1 h2
  · obtain ⟨z1, z0 | ⟨o, z2⟩⟩ := w.kep p hp
    · exact ⟨z1, .inl z0⟩
    · exact ⟨z1, .inr ⟨o, by rw [set_ne (hk p hp)]; exact z2⟩⟩
theorem s_ret (hk : b.kp.map (·.1) = ks) (he : PD X b e ta) : PSD X b (.Return (some e) pos) (wRet ks ta) := ps_weak (ps_ret he) fun D σ H q => by
  obtain ⟨G, ρ, DD, w, q, n, rt, _⟩ := q
  refine ⟨G, ρ, _, w, q, fun v H1 G1 r ρ1 w1 m1 q1 z => ?_⟩
  cases r with
  | dat d => exact rt v σ H1 G1 _ ρ1 H w1 m1.ex q1 z
  | own o => exact rt v σ H1 G1 _ ρ1 H w1 m1.ex q1 z
  | bor i =>
    unfold outR at z
    dsimp only at z
    split at z
    · exact z.elim
    · rename_i hi
      have hki : ∀ p ∈ b.kp, p.1 ≠ i := fun p hp e => hi (by rw [← hk, ← e]; exact List.mem_map_of_mem hp)
      have q1' : σ[i]? = some (some v) := q1
      split at z
      · rename_i o ho
        obtain ⟨a, h, h1, h2, h3, h4, h5⟩ := w1.own i o ho
        rw [h1] at q1'
        cases q1'
        refine rt _ σ H1 G1 (.own o) _ (fun _ => none) (w1.lose hki) m1.ex ⟨a, h, rfl, h2, h3, h4, h5, fun j o' z1 z2 => ?_, rfl⟩ z
        rcases set_at z1 with ⟨rfl, e, hl⟩ | ⟨hn, z1⟩
        · cases e
        · exact hn (w1.dis j i o' o a z1 ho z2 h1)
      · rename_i d hd
        obtain ⟨u, h1, h2⟩ := w1.dat i d hd
        rw [h1] at q1'
        cases q1'
        exact rt v σ H1 G1 (.dat d) ρ1 H w1 m1.ex h2 z
      · exact z.elim
theorem s_if {c : Expr} (hc : PTD X b c tt) (h1 : PSsD X b body s) (h2 : PSsD X b els t) : PSD X b (.If c body els pos) (wIfS tt s t) := ps_weak (ps_if hc h1 h2) fun D σ H q => by
  obtain ⟨G, ρ, DD, w, q, n, r, bk, ct⟩ := q
  refine ⟨G, ρ, _, w, q, fun c H1 G1 ρ1 w1 m1 z => ?_⟩
  have go : ∀ {u : SD}, u DD ρ1 → liftS X.K b u D σ H1 := fun {u} z => ⟨G1, ρ1, DD, w1, z, fun σ2 H2 G2 ρ2 w2 x2 => n σ2 H2 G2 ρ2 w2 (m1.ex.trans x2), fun v σ2 H2 G2 r2 ρ2 J w2 x2 => r v σ2 H2 G2 r2 ρ2 J w2 (m1.ex.trans x2),
    fun σ2 H2 G2 ρ2 w2 x2 => bk σ2 H2 G2 ρ2 w2 (m1.ex.trans x2), fun σ2 H2 G2 ρ2 w2 x2 => ct σ2 H2 G2 ρ2 w2 (m1.ex.trans x2)⟩
  cases c with
  | true => exact iteT (go z)
  | false => exact iteF (go z)
theorem asg_go {K : PySem.W.Frag} {i : Nat} (hk : b.kp.map (·.1) = ks) {D : Ends} {σ : L2.St} {H : Hp} (q : liftS K b (wAsg ks i ta) D σ H) : tAsg (lift K b ta) (gName i) D σ H := by
  obtain ⟨G, ρ, DD, w, q, n, _⟩ := q
  refine ⟨G, ρ, _, w, q, fun v H1 G1 r ρ1 w1 m1 q1 z => ?_⟩
  split at z
  · exact z.elim
  · rename_i hi
    obtain ⟨p, e1, z⟩ := lk_get z
    obtain ⟨r', ρ2⟩ := p
    obtain ⟨G2, w2, x2, p2, b2, _⟩ := w1.thin hk q1 e1
    exact n _ H1 G2 _ (w2.set p2 b2 fun p hp e => hi (by rw [← hk, ← e]; exact List.mem_map_of_mem hp)) (m1.ex.trans x2) z
theorem s_set {i : Nat} {x : Str} {pos' : Pos} (hk : b.kp.map (·.1) = ks) (hN : X.N.Nodup) (hi : X.N[i]? = some x) (hx : Loc X.env.scope x) (he : PD X b e ta) (hs : swapsWith e (some (.Name x pos')) pos.line X.env = pure false := by rfl)
    (hf : X.fn x = true ∨ X.env.scope.names.lookup x = some .local := by first | exact .inl rfl | exact .inr rfl | assumption) : PSD X b (.Assign [.Name x pos'] e pos) (wAsg ks i ta) :=
  ps_weak (ps_set hN hi hx he hs hf) fun _ _ _ q => asg_go hk q
theorem par_go {K : PySem.W.Frag} {is : List Nat} (hk : b.kp.map (·.1) = ks) {D : Ends} {σ : L2.St} {H : Hp} (q : liftS K b (wPar ks is tl) D σ H) : liftA K b tl σ H fun vs H1 => vs.length = is.length ∧ D.nx (setV is vs σ) H1 := by
  obtain ⟨G, ρ, DD, w, q, n, _⟩ := q
  refine ⟨G, ρ, _, w, q, fun vs H1 G1 rs ρ1 w1 m1 q1 z => ?_⟩
  obtain ⟨hi, hl, z⟩ := z
  obtain ⟨p, e1, z⟩ := lk_get z
  obtain ⟨rs', ρ2⟩ := p
  obtain ⟨G2, w2, x2, p2, b2, _⟩ := Rel.thins hk w1 q1 e1
  have len : ∀ {vs : List V} {rs : List R}, RvA K b σ H H1 G1 ρ1 vs rs → vs.length = rs.length := fun {vs rs} h => by
    induction h with
    | nil => rfl
    | cons _ _ _ ih => exact congrArg (· + 1) ih
  exact ⟨(len q1).trans hl, n _ H1 G2 _ (Rel.sets w2 p2 b2 fun i hm p hp e => hi i hm (by rw [← hk, ← e]; exact List.mem_map_of_mem hp)) (m1.ex.trans x2) z⟩
theorem s_par2 {i j : Nat} {x y : Str} {ea eb : Expr} {px py pt : Pos} {kt k2 pt2} (hk : b.kp.map (·.1) = ks) (hc : X.calm = true) (hN : X.N.Nodup) (hi : X.N[i]? = some x) (hj : X.N[j]? = some y) (hij : i ≠ j) (hx : X.env.scope.names.lookup x = some .local) (hy : X.env.scope.names.lookup y = some .local)
    (ha : PAD X b [ea, eb] tl) (hw : swappedStores [.Tuple [.Name x px, .Name y py] kt pt] (.Tuple [ea, eb] k2 pt2) X.env = pure (some [x, y]))
    (hs : swapsWithSole [.Tuple [.Name x px, .Name y py] kt pt] (.Tuple [ea, eb] k2 pt2) pos.line X.env = pure false := by rfl) :
    PSD X b (.Assign [.Tuple [.Name x px, .Name y py] kt pt] (.Tuple [ea, eb] k2 pt2) pos) (wPar ks [i, j] tl) :=
  ps_weak (ps_par hc hN hi hj hij hx hy ha hw hs) fun D σ H q => by
    obtain ⟨G, ρ, QD, w, q, k⟩ := par_go hk q
    refine ⟨G, ρ, QD, w, q, fun vs H1 G1 rs ρ1 w1 m1 q1 z => ?_⟩
    obtain ⟨hl, n⟩ := k vs H1 G1 rs ρ1 w1 m1 q1 z
    match vs, hl with
    | [v, u], _ => exact ⟨v, u, rfl, n⟩
end

/-! ### targets -/
abbrev GD := D → Rho → (Rho → Prop) → Prop
/-- is: the slots that are stored -/
def liftG (K : PySem.W.Frag) (b : Bas) (is : List Nat) (gd : GD) : TG := fun v σ H Q => ∃ G ρ d QD, Rel K b σ H G ρ ∧ Rp K G v d ∧ gd d ρ QD ∧
  ∀ σ' ρ', Rel K b σ' H G ρ' → σ'.length = σ.length → (∀ i, i ∉ is → σ'[i]? = σ[i]?) → (∀ i, i ∉ is → ρ'[i]? = ρ[i]?) → (∀ (i : Nat) (o : Own), ρ'[i]? = some (.own o) → ρ[i]? = some (.own o)) → QD ρ' → Q σ' H
def liftGs (K : PySem.W.Frag) (b : Bas) (is : List Nat) (gd : List D → Rho → (Rho → Prop) → Prop) : TGs := fun vs σ H Q => ∃ G ρ ds QD, Rel K b σ H G ρ ∧ RpA K G vs ds ∧ gd ds ρ QD ∧
  ∀ σ' ρ', Rel K b σ' H G ρ' → σ'.length = σ.length → (∀ i, i ∉ is → σ'[i]? = σ[i]?) → (∀ i, i ∉ is → ρ'[i]? = ρ[i]?) → (∀ (i : Nat) (o : Own), ρ'[i]? = some (.own o) → ρ[i]? = some (.own o)) → QD ρ' → Q σ' H
def hName (ks : List Nat) (i : Nat) : GD := fun d ρ Q => if i ∈ ks then False else Q (ρ.set i (.dat d))
def hNil : List D → Rho → (Rho → Prop) → Prop := fun ds ρ Q => ds = [] ∧ Q ρ
def hCons (g : GD) (r : List D → Rho → (Rho → Prop) → Prop) : List D → Rho → (Rho → Prop) → Prop := fun ds ρ Q => match ds with
  | [] => False
  | d :: ds => g d ρ fun ρ1 => r ds ρ1 Q
def hTup (n : Nat) (r : List D → Rho → (Rho → Prop) → Prop) : GD := fun d ρ Q => match d with
  | .tup ds => ds.length = n ∧ r ds ρ Q
  | .wt ds => ds.length = n ∧ r ds ρ Q
  | _ => False
section
variable {X : Cx} {b : Bas} {ks is js : List Nat} {pos : Pos}
theorem g_name {i : Nat} {x : Str} (hk : b.kp.map (·.1) = ks) (hN : X.N.Nodup) (hi : X.N[i]? = some x) (hx : Loc X.env.scope x) (hf : X.fn x = true ∨ X.env.scope.names.lookup x = some .local := by first | exact .inl rfl | exact .inr rfl | assumption) :
    PG X (.Name x pos) (liftG X.K b [i] (hName ks i)) := ⟨fun pins s σ H v u Q I r q => by
  refine (pg_name hN hi hx hf).run pins s σ H v u Q I r ?_
  obtain ⟨G, ρ, d, QD, w, q1, q2, k⟩ := q
  unfold hName at q2
  split at q2
  · exact q2.elim
  · rename_i hik
    have ne : ∀ {j : Nat}, j ∉ [i] → j ≠ i := fun {j} h e => h (by rw [e]; exact List.mem_singleton.mpr rfl)
    refine k _ _ (w.set (J := H) (r := .dat d) q1 (fun i z => by cases z) fun p hp e => hik (by rw [← hk, ← e]; exact List.mem_map_of_mem hp)) (by rw [List.length_set]) (fun j hj => set_ne (ne hj)) (fun j hj => set_ne (ne hj)) (fun j o hj => ?_) q2
    rcases set_at hj with ⟨rfl, e, hl⟩ | ⟨hn, hj⟩
    · cases e
    · exact hj⟩
theorem gs_nil : PGs X [] (liftGs X.K b [] hNil) := ⟨fun pins s σ H vs us Q I r q => by
  refine pgs_nil.run pins s σ H vs us Q I r ?_
  obtain ⟨G, ρ, ds, QD, w, q1, ⟨rfl, q2⟩, k⟩ := q
  cases q1
  exact ⟨rfl, k σ ρ w rfl (fun _ _ => rfl) (fun _ _ => rfl) (fun _ _ h => h) q2⟩⟩
theorem gs_cons {e : Expr} {es : List Expr} {g : GD} {gr : List D → Rho → (Rho → Prop) → Prop} (h1 : PG X e (liftG X.K b is g)) (h2 : PGs X es (liftGs X.K b js gr)) (hs : (assignEach (e :: es) X.env).map (·.2) = assign e X.env :: (assignEach es X.env).map (·.2) := by rfl) :
    PGs X (e :: es) (liftGs X.K b (is ++ js) (hCons g gr)) := ⟨fun pins s σ H vs us Q I r q => by
  refine (pgs_cons h1 h2 hs).run pins s σ H vs us Q I r ?_
  obtain ⟨G, ρ, ds, QD, w, q1, q2, k⟩ := q
  cases q1 with
  | nil => exact q2.elim
  | cons p1 p2 =>
    refine ⟨_, _, rfl, G, ρ, _, _, w, p1, q2, fun σ1 ρ1 w1 l1 y1 z1 n1 q3 => ?_⟩
    refine ⟨G, ρ1, _, QD, w1, p2, q3, fun σ2 ρ2 w2 l2 y2 z2 n2 q4 => ?_⟩
    exact k σ2 ρ2 w2 (l2.trans l1) (fun i hi => (y2 i fun h => hi (List.mem_append_right _ h)).trans (y1 i fun h => hi (List.mem_append_left _ h))) (fun i hi => (z2 i fun h => hi (List.mem_append_right _ h)).trans (z1 i fun h => hi (List.mem_append_left _ h))) (fun i o h => n1 i o (n2 i o h)) q4⟩
theorem g_tup {es : List Expr} {k n : Nat} {gr : List D → Rho → (Rho → Prop) → Prop} (hc : X.calm = true) (h : PGs X es (liftGs X.K b is gr)) (hn : (assignEach es X.env).length = n := by rfl) (hst : (assignEach es X.env).findIdx? (·.1) = none := by rfl) :
    PG X (.Tuple es k pos) (liftG X.K b is (hTup n gr)) := ⟨fun pins s σ H v u Q I r q => by
  refine (pg_tup hc h hn hst).run pins s σ H v u Q I r ?_
  obtain ⟨G, ρ, d, QD, w, q1, q2, k⟩ := q
  cases q1 with
  | tup p1 p2 => exact ⟨_, _, rfl, w.sub.sqt p1.1, p2.len.trans q2.1, G, ρ, _, QD, w, p2, q2.2, k⟩
  | wt p1 p2 => exact ⟨_, _, rfl, w.sub.sqt p1, p2.len.trans q2.1, G, ρ, _, QD, w, p2, q2.2, k⟩
  | non => exact q2.elim
  | bl c => exact q2.elim
  | int i => exact q2.elim
  | str x => exact q2.elim
  | lst p1 p2 => exact q2.elim
  | fzl p1 p2 => exact q2.elim
  | dct p1 p2 => exact q2.elim
  | ty n => exact q2.elim
  | cls C => exact q2.elim
  | exc0 p1 => exact q2.elim
  | exc p1 p2 p3 => exact q2.elim
  | ins p1 p2 => exact q2.elim⟩
end
/-- targets = value, the value data -/
def wUnp (ks : List Nat) (ta : TD) (g : GD) : SD := fun DD ρ => ta ρ fun r ρ1 => lk (frz ks r ρ1) fun p => g p.1 p.2 DD.nx
section
variable {X : Cx} {b : Bas} {ks is : List Nat} {e tg : Expr} {ta : TD} {pos : Pos}
end

/-! ### while -/
def whileN (t : TTD) (sb : SD) (DD : EndsD) : Nat → Rho → Prop
  | 0, _ => False
  | n + 1, ρ => t ρ fun c ρ1 => if c = true then sb { DD with nx := whileN t sb DD n, ct := whileN t sb DD n, bk := DD.nx } ρ1 else DD.nx ρ1
section
variable {X : Cx} {b : Bas} {c : Expr} {body : List Stmt} {tt : TTD} {s : SD} {pos : Pos}
end

/-! ### for -/
/-- what an iterator yields: these data -/
def ItD (K : PySem.W.Frag) (J : It) (ds : List D) (G : Hp) : Prop := ∀ (i : Nat) (H G1 : Hp), Ex G G1 → Ex G1 H → (∀ d, ds[i]? = some d → J.go i H ∧ ∀ x H', J.yld i H x H' → ∃ z, z.r = .dat d ∧ Out K H G1 x H' z) ∧ (ds.length ≤ i → J.stop i H)
abbrev TID := Rho → (List D → Rho → Prop) → Prop
def liftI (K : PySem.W.Frag) (b : Bas) (ti : TID) : TI := fun σ H R => ∃ G ρ QD, Rel K b σ H G ρ ∧ ti ρ QD ∧
  ∀ J H' G' ds ρ', Rel K b σ H' G' ρ' → Fm σ ρ H G ρ' H' G' → ItD K J ds G' → QD ds ρ' → R J H'
def forL (g : GD) (sb : SD) (DD : EndsD) : List D → Rho → Prop
  | [], ρ => DD.nx ρ
  | d :: ds, ρ => g d ρ fun ρ1 => sb { DD with nx := forL g sb DD ds, ct := forL g sb DD ds, bk := DD.nx } ρ1
def wFor (ti : TID) (g : GD) (sb : SD) : SD := fun DD ρ => ti ρ fun ds ρ1 => forL g sb DD ds ρ1
theorem drop_at {α : Type} {l : List α} {i : Nat} {x : α} (h : l[i]? = some x) : l.drop i = x :: l.drop (i + 1) := by
  obtain ⟨hl, e⟩ := List.getElem?_eq_some_iff.mp h
  rw [List.drop_eq_getElem_cons hl, e]
section
variable {X : Cx} {b : Bas} {ks is : List Nat} {iter tg : Expr} {body : List Stmt} {ti : TID} {g : GD} {s : SD} {pos : Pos}
theorem s_for (hp : PassesOwn (model X.prog X.w) X.A X.env X.xe) (hc : X.calm = true) (hi : PI X tg iter (liftI X.K b ti)) (hg : PG X tg (liftG X.K b is g)) (hb : PSsD X b body s) (hs : ∀ x, foldedSetIterable iter X.env x = pure x := by intro _; rfl) :
    PSD X b (.For tg iter body [] pos) (wFor ti g s) := ps_weak (ps_for hp hc hi hg hb hs) fun D σ H q => by
  obtain ⟨G, ρ, DD, w, q, n, r, bk, ct⟩ := q
  refine ⟨G, ρ, _, w, q, fun J H1 G1 ds ρ1 w1 m1 it z => ?_⟩
  refine ⟨fun i m σ H => m = ds.length - i ∧ ∃ G2 ρ2, Rel X.K b σ H G2 ρ2 ∧ Ex G1 G2 ∧ forL g s DD (ds.drop i) ρ2, ⟨ds.length, (Nat.sub_zero _).symm, G1, ρ1, w1, Ex.refl G1, z⟩, fun i m σ2 H2 q2 => ?_⟩
  obtain ⟨rfl, G2, ρ2, w2, x2, z2⟩ := q2
  have x02 := m1.ex.trans x2
  cases e : ds[i]? with
  | none =>
    have hl : ds.length ≤ i := List.getElem?_eq_none_iff.mp e
    rw [List.drop_eq_nil_of_le hl] at z2
    exact .inl ⟨(it i H2 G2 x2 w2.sub).2 hl, n σ2 H2 G2 ρ2 w2 x02 z2⟩
  | some d =>
    rw [drop_at e] at z2
    obtain ⟨g1, g2⟩ := (it i H2 G2 x2 w2.sub).1 d e
    have hl : i < ds.length := (List.getElem?_eq_some_iff.mp e).1
    refine .inr ⟨g1, fun σ H => ∃ G3 ρ3, Rel X.K b σ H G3 ρ3 ∧ Ex G1 G3 ∧ forL g s DD (ds.drop (i + 1)) ρ3, fun σ' H' h => ⟨ds.length - (i + 1), by omega, rfl, h⟩, fun x H' y => ?_⟩
    obtain ⟨zz, ez, o⟩ := g2 x H' y
    obtain ⟨G3, w3, m3, q3⟩ := o.go w2
    rw [ez] at q3
    refine ⟨G3, ρ2, d, _, w3, q3, z2, fun σ' ρ' w' _ _ _ _ z' => ?_⟩
    have x3 := x2.trans m3.ex
    have x03 := m1.ex.trans x3
    exact ⟨G3, ρ', _, w', z', fun σ4 H4 G4 ρ4 w4 x4 z4 => ⟨G4, ρ4, w4, x3.trans x4, z4⟩, fun v σ4 H4 G4 r4 ρ4 J w4 x4 => r v σ4 H4 G4 r4 ρ4 J w4 (x03.trans x4), fun σ4 H4 G4 ρ4 w4 x4 z4 => n σ4 H4 G4 ρ4 w4 (x03.trans x4) z4, fun σ4 H4 G4 ρ4 w4 x4 z4 => ⟨G4, ρ4, w4, x3.trans x4, z4⟩⟩
end
end DL

set_option Elab.async false
set_option maxRecDepth 100000
set_option maxHeartbeats 4000000
/-! DL4: promises over data, calls; comprehensions; objects that are changed. -/
namespace DL
open PySem PySem.Spec PyProof.Rows L2

/-! ### a def, called where no repr is under way -/
structure FnG (P : Program) (w : World) (K : PySem.W.Frag) (mg : Str → Option Value) (base : Heap) (CX : CXT) (k : Nat) (f : Addr) (fd : FuncData) (ps : List Str) (sp : Sp) : Prop where
  len : ∀ xs G Q E, sp xs G Q E → xs.length = ps.length
  run : ∀ (A : Around) (out : List Env) (st : Shared) (G : Hp) (ar : Args) (us : List Value) (xs : List V) (Q : VK) (E : XK), Room k A → A.guards = some [] → Env0 P w K mg base A out st G →
    BindsTo st fd ar (ps.zip us) → Vals xs us → sp xs G Q E → codeAny (model P w) A (.call (.ref f) ar) (CR CX out P w G st Q E) st
theorem FnG.more {P : Program} {w : World} {K : PySem.W.Frag} {mg : Str → Option Value} {base : Heap} {CX : CXT} {j k : Nat} {f : Addr} {fd : FuncData} {ps : List Str} {sp : Sp} (F : FnG P w K mg base CX j f fd ps sp) (h : j ≤ k) : FnG P w K mg base CX k f fd ps sp :=
  ⟨F.len, fun A out st G ar us xs Q E r => F.run A out st G ar us xs Q E (r.mono h)⟩
section
variable {P : Program} {w : World} {K : PySem.W.Frag} {mg : Str → Option Value} {base : Heap}
/-- a def keeps its promise if its body does -/
theorem fnG_mk {CX : CXT} {k : Nat} {x qual : Str} {st : Stmt} {f : Addr} {fd : FuncData} {N ps : List Str} {sp : Sp} (F : Fun K x qual st f fd) (S : FnScope N ps (defScope st)) (len : ∀ xs G Q E, sp xs G Q E → xs.length = ps.length)
    (body : ∀ (cdv : Value) (A : Around) (out : List Env) (s0 : Shared) (G : Hp) (xs : List V) (Q : VK) (E : XK), Room k (A.deeper (envOfC qual (defScope st) s0.heap.objs.size f cdv)) → A.guards = some [] → sp xs G Q E →
      ∃ t, PSs (cxOf CX P w K mg base N qual (defScope st) f cdv A out s0 G E) (defBody st) t ∧ t { nx := fun _ G' => Q .non G', rt := Q } (start N xs) G) : FnG P w K mg base CX (k + 1) f fd ps sp := by
  obtain ⟨c0, d0, e1, e2, e3, a0, cv, t0, z0, rfl, look, code⟩ := F.ex
  refine ⟨len, fun A out s0 G ar us xs Q E room grd env bind vals want => ?_⟩
  have count := len _ _ _ _ want
  have inn : K.In s0.heap := env.mod.kin.keeps fun p u z => (env.bs p u z).1
  have free : s0.heap.NoLimit := env.mod.nolimit.keeps fun p u z => (env.bs p u z).1
  refine codeAny_call_function room.depth (inn _ _ look) rfl S.co S.gen rfl (PySem.W.codeRec_of inn code) (bind _ _ _ _ ?_)
  refine wpAny_newFunctionEnv_cells S.kind (fun y hy => ?_) fun en hen s1 ic => ?_
  · rcases S.par y.1 (List.of_mem_zip (show (y.1, y.2) ∈ ps.zip us from hy)).1 with z | z
    · exact .inl z
    · exact .inr ⟨z, PySem.W.cellsFrom_some _ _ _ (.inl z)⟩
  · subst hen
    refine ⟨free.keeps ic.toInCall.keep, codeAny_func ?_⟩
    obtain ⟨t, deriv, holds⟩ := body cv A out s0 G xs Q E (room.deeper _) grd want
    have inv : Inv (cxOf CX P w K mg base N qual (defScope st) f cv A out s0 G E) [] (start N xs) G s1 := inv_start S room.hd env count vals ic
    have fin : ∀ {s2 : Shared} {σ2 : L2.St} {G2 : Hp} {v : V} {u : Value}, Inv (cxOf CX P w K mg base N qual (defScope st) f cv A out s0 G E) [] σ2 G2 s2 → RelV v u → Q v G2 → CE out P w G s0 Q u s2 :=
      fun {s2 σ2 G2 v u} i2 rv q2 => ⟨v, G2, i2.os, i2.bare, i2.base, i2.hok, rv, q2⟩
    refine wpAny_mono (deriv.run [] s1 _ G _ inv holds) (fun flow s2 out2 => ?_) fun _ _ h => h
    cases flow with
    | brk => obtain ⟨_, _, _, no⟩ := out2; exact no.elim
    | cont => obtain ⟨_, _, _, no⟩ := out2; exact no.elim
    | next =>
      obtain ⟨σ2, G2, i2, q2⟩ := out2
      exact fin (v := V.non) (u := Value.none) i2 rfl q2
    | ret u =>
      obtain ⟨v, σ2, G2, i2, rv, q2⟩ := out2
      exact fin i2 rv q2
end
section
variable {X : Cx} {CX : CXT} {k : Nat} {f C : Addr} {fd : FuncData} {ps : List Str} {sp : Sp} {E : XK} {x : Str} {p pos : Pos} {e : Expr} {es : List Expr} {t : TA}
theorem runG {pins : List (Addr × Obj)} {σ : L2.St} {H : Hp} {s : Shared} {Q : VK} {us : List Value} {xs : List V} (F : FnG X.prog X.w X.K X.mg X.base CX k f fd ps sp) (room : Room k X.A) (grd : X.A.guards = some []) (bind : Binds X.K fd ps []) (pass : Passes CX X E)
    (inv : Inv X pins σ H s) (vals : Vals xs us) (want : sp xs H Q E) : wpAny (model X.prog X.w) X.A (call (.ref f) us) (EP X pins σ Q) X.xe s := by
  have count : (us ++ []).length = ps.length := by rw [List.append_nil, ← vals.length]; exact F.len _ _ _ _ want
  have b2 := bind s us inv.kIn count
  rw [List.append_nil] at b2
  refine wpAny_call (codeAny_mono (F.run X.A X.stack s H ⟨us, []⟩ us xs Q E room grd inv.env0 b2 vals want) fun res s2 out => ?_)
  match res, out with
  | .ok (.ret u), h => exact inv.after h
  | .ok .next, h => exact h.elim
  | .ok .brk, h => exact h.elim
  | .ok .cont, h => exact h.elim
  | .error ex, h => exact pass pins σ H s ex s2 inv h
def tCallG (sp : Sp) (E : XK) (t : TA) : TE := fun σ H Q => t σ H fun vs H1 => sp vs H1 Q E
theorem pe_callG (F : FnG X.prog X.w X.K X.mg X.base CX k f fd ps sp) (room : Room k X.A) (grd : X.A.guards = some []) (hg : Gl X x) (hm : X.mg x = some (.ref f)) (kept : PySem.W.keepIn X.K (.ref f) = true) (bind : Binds X.K fd ps []) (pass : Passes CX X E)
    (args : PA X (e :: es) t) (hd : (x == ("__debug__" : Str)) = false := by decide) (hs : starEach (e :: es) X.env = (false, eval e X.env) :: starEach es X.env := by rfl) (hp : (backTo pos (starEach es X.env)).any (·.1) = false := by rfl) :
    PE X (.Call (.Name x p) (e :: es) [] pos) (tCallG sp E t) := by
  constructor
  intro pins s σ H Q inv q
  refine wpAny_Call_Name_kw (ld_glob inv hg hm (PySem.W.callWith_K (h₀ := X.base) inv.ok.mod.kin kept (thn (args.run pos pins s σ H _ inv q) fun us s1 h => ?_) hs hp) hd)
  obtain ⟨xs, H1, inv1, vals, want⟩ := h
  exact ⟨inv1.kIn, runG F room grd bind pass inv1 vals want⟩
end

/-! ### promises over data -/
/-- an exception: its class, its own dict -/
structure Xc where
  C : Addr
  l : Option (List (Str × D))
abbrev DSp := List Sl → (R → List Sl → Prop) → (Xc → List Sl → Prop) → Prop
def RSl (K : PySem.W.Frag) (H G : Hp) (v : V) : Sl → Prop
  | .no => False
  | .dat d => Rp K G v d
  | .own o => ∃ a h, v = .ref a ∧ H a = some h ∧ G a = none ∧ RpO K G h o
inductive RSls (K : PySem.W.Frag) (H G : Hp) : List V → List Sl → Prop
  | nil : RSls K H G [] []
  | cons {v : V} {vs : List V} {s : Sl} {ss : List Sl} : RSl K H G v s → RSls K H G vs ss → RSls K H G (v :: vs) (s :: ss)
/-- the parameters that are handed on by reference -/
def kpOf : Nat → List V → List Sl → List (Nat × Addr)
  | n, .ref a :: vs, .own _ :: ss => (n, a) :: kpOf (n + 1) vs ss
  | n, _ :: vs, _ :: ss => kpOf (n + 1) vs ss
  | _, _, _ => []
def ixOf : Nat → List Sl → List Nat
  | n, .own _ :: ss => n :: ixOf (n + 1) ss
  | n, _ :: ss => ixOf (n + 1) ss
  | _, [] => []
theorem kpOf_ix {K : PySem.W.Frag} {H G : Hp} : ∀ {vs : List V} {ss : List Sl} (n : Nat), RSls K H G vs ss → (kpOf n vs ss).map (·.1) = ixOf n ss
  | _, _, n, .nil => rfl
  | _, _, n, .cons (s := s) h r => by
    cases s with
    | no => exact h.elim
    | dat d =>
      have := kpOf_ix (n + 1) r
      cases h <;> exact this
    | own o =>
      obtain ⟨a, h', rfl, _⟩ := h
      exact congrArg (n :: ·) (kpOf_ix (n + 1) r)
theorem kpOf_mem {K : PySem.W.Frag} {H G : Hp} : ∀ {vs : List V} {ss : List Sl} (n : Nat), RSls K H G vs ss → ∀ p ∈ kpOf n vs ss, ∃ j, p.1 = n + j ∧ vs[j]? = some (.ref p.2) ∧ ∃ o, ss[j]? = some (.own o)
  | _, _, n, .nil, p, h => by cases h
  | _, _, n, .cons (v := v) (vs := vs) (s := s) (ss := ss) h r, p, hp => by
    have go : p ∈ kpOf (n + 1) vs ss → ∃ j, p.1 = n + j ∧ (v :: vs)[j]? = some (.ref p.2) ∧ ∃ o, (s :: ss)[j]? = some (.own o) := fun hp => by
      obtain ⟨j, e1, e2, e3⟩ := kpOf_mem (n + 1) r p hp
      exact ⟨j + 1, by omega, e2, e3⟩
    cases s with
    | no => exact h.elim
    | dat d => cases h <;> exact go hp
    | own o =>
      obtain ⟨a, h', rfl, _⟩ := h
      rcases List.mem_cons.mp hp with rfl | hp
      · exact ⟨0, rfl, rfl, o, rfl⟩
      · exact go hp
theorem kpOf_has {K : PySem.W.Frag} {H G : Hp} : ∀ {vs : List V} {ss : List Sl} (n : Nat), RSls K H G vs ss → ∀ (j : Nat) (o : Own) (a : Addr), ss[j]? = some (.own o) → vs[j]? = some (.ref a) → (n + j, a) ∈ kpOf n vs ss
  | _, _, n, .nil, j, o, a, h, _ => by simp at h
  | _, _, n, .cons (vs := vs) (s := s) (ss := ss) h r, j, o, a, h1, h2 => by
    cases j with
    | zero =>
      cases h1
      obtain ⟨a', h', rfl, _⟩ := h
      cases h2
      exact List.mem_cons_self
    | succ j =>
      have ih := kpOf_has (n + 1) r j o a h1 h2
      have e : n + 1 + j = n + (j + 1) := by omega
      rw [e] at ih
      cases s with
      | no => exact h.elim
      | dat d => cases h <;> exact ih
      | own o =>
        obtain ⟨a', h', rfl, _⟩ := h
        exact List.mem_cons_of_mem _ ih
theorem RSls.len {K : PySem.W.Frag} {H G : Hp} : ∀ {vs : List V} {ss : List Sl}, RSls K H G vs ss → vs.length = ss.length
  | _, _, .nil => rfl
  | _, _, .cons _ r => congrArg (· + 1) r.len
theorem RSls.at {K : PySem.W.Frag} {H G : Hp} : ∀ {vs : List V} {ss : List Sl}, RSls K H G vs ss → ∀ {j : Nat} {s : Sl}, ss[j]? = some s → ∃ v, vs[j]? = some v ∧ RSl K H G v s
  | _, _, .nil, j, s, h => by simp at h
  | _, _, .cons h _, 0, s, e => by cases e; exact ⟨_, rfl, h⟩
  | _, _, .cons _ r, j + 1, s, e => by
    obtain ⟨v, h1, h2⟩ := RSls.at r (j := j) (s := s) (by simpa using e)
    exact ⟨v, by simpa using h1, h2⟩
/-- what a call leaves -/
structure Back (K : PySem.W.Frag) (kp : List (Nat × Addr)) (H G : Hp) (args' : List Sl) (H' G' : Hp) : Prop where
  sub : Ex G' H'
  ex : Ex G G'
  kep : ∀ (a : Addr) (o : HO), H a = some o → (∀ p ∈ kp, p.2 ≠ a) → H' a = some o ∧ (G a = none → G' a = none)
  dm : ∀ (a : Addr), H' a = none → H a = none
  ow : ∀ p ∈ kp, ∃ o h, args'[p.1]? = some (.own o) ∧ H' p.2 = some h ∧ G' p.2 = none ∧ RpO K G' h o
def Res (K : PySem.W.Frag) (H H' G' : Hp) (v : V) : R → Prop
  | .dat d => Rp K G' v d
  | .own o => ∃ a h, v = .ref a ∧ H' a = some h ∧ G' a = none ∧ RpO K G' h o ∧ H a = none
  | .bor _ => False
def RX (K : PySem.W.Frag) (H' G' : Hp) (d : Option Addr) : Option (List (Str × D)) → Prop
  | none => d = none
  | some l => ∃ a fs, d = some a ∧ G' a = some (.xd fs) ∧ RpF K G' fs l
def toSp (K : PySem.W.Frag) (sp : DSp) : Sp := fun vs H Q E => ∃ G args QD ED, Ex G H ∧ RSls K H G vs args ∧ ((kpOf 0 vs args).map (·.2)).Nodup ∧ sp args QD ED ∧
  (∀ v H' G' r args', Back K (kpOf 0 vs args) H G args' H' G' → Res K H H' G' v r → QD r args' → Q v H') ∧
  (∀ d H' G' x args', Back K (kpOf 0 vs args) H G args' H' G' → RX K H' G' d x.l → ED x args' → E (.ref x.C) d H')
/-- the ground of a def's body -/
def basOf (vs : List V) (args : List Sl) (H G : Hp) : Bas := { B := fun a => if a ∈ (kpOf 0 vs args).map (·.2) then none else H a, G0 := G, kp := kpOf 0 vs args }
section
variable {K : PySem.W.Frag} {H G : Hp} {vs : List V} {args : List Sl}
theorem nodup_snd {α β : Type} {l : List (α × β)} (h : (l.map (·.2)).Nodup) {p q : α × β} (hp : p ∈ l) (hq : q ∈ l) (e : p.2 = q.2) : p = q := by
  induction l with
  | nil => cases hp
  | cons x r ih =>
    rw [List.map_cons, List.nodup_cons] at h
    rcases List.mem_cons.mp hp with z1 | z1 <;> rcases List.mem_cons.mp hq with z2 | z2
    · rw [z1, z2]
    · exact absurd (by rw [← z1, e]; exact List.mem_map_of_mem z2) h.1
    · exact absurd (by rw [← z2, ← e]; exact List.mem_map_of_mem z1) h.1
    · exact ih h.2 z1 z2
theorem rel_start {N : List Str} (hs : Ex G H) (h : RSls K H G vs args) (nd : ((kpOf 0 vs args).map (·.2)).Nodup) : Rel K (basOf vs args H G) (L2.start N vs) H G (args ++ List.replicate (N.length - args.length) .no) := by
  have hl := h.len
  have inA : ∀ {i : Nat} {s : Sl}, s ≠ .no → (args ++ List.replicate (N.length - args.length) Sl.no)[i]? = some s → args[i]? = some s := fun {i s} hn e => by
    by_cases hi : i < args.length
    · rw [List.getElem?_append_left hi] at e; exact e
    · rw [List.getElem?_append_right (by omega), List.getElem?_replicate] at e
      split at e
      · cases e; exact absurd rfl hn
      · cases e
  have inV : ∀ {i : Nat} {v : V}, vs[i]? = some v → (L2.start N vs)[i]? = some (some v) := fun {i v} e => by
    have hi : i < vs.length := (List.getElem?_eq_some_iff.mp e).1
    unfold L2.start
    rw [List.getElem?_append_left (by rw [List.length_map]; exact hi), List.getElem?_map, e]
    rfl
  have own1 : ∀ {i : Nat} {o : Own}, args[i]? = some (.own o) → ∃ a hh, vs[i]? = some (.ref a) ∧ H a = some hh ∧ G a = none ∧ RpO K G hh o ∧ (i, a) ∈ kpOf 0 vs args := fun {i o} e => by
    obtain ⟨v, e1, a, hh, rfl, z1, z2, z3⟩ := h.at e
    have := kpOf_has 0 h i o a e e1
    rw [Nat.zero_add] at this
    exact ⟨a, hh, e1, z1, z2, z3, this⟩
  refine ⟨hs, fun a o e => ?_, Ex.refl G, fun a _ e => e, ?_, fun i d e => ?_, fun i o e => ?_, fun i j o o' a e1 e2 e3 e4 => ?_, fun p hp => ?_⟩
  · have e' : (if a ∈ (kpOf 0 vs args).map (·.2) then none else H a) = some o := e
    split at e'
    · cases e'
    · exact e'
  · unfold L2.start
    rw [List.length_append, List.length_append, List.length_map, List.length_replicate, List.length_replicate, hl]
  · obtain ⟨v, e1, e2⟩ := h.at (inA (by intro z; cases z) e)
    exact ⟨v, inV e1, e2⟩
  · obtain ⟨a, hh, e1, z1, z2, z3, z4⟩ := own1 (inA (by intro z; cases z) e)
    refine ⟨a, hh, inV e1, z1, z2, ?_, z3⟩
    show (if a ∈ (kpOf 0 vs args).map (·.2) then none else H a) = none
    rw [if_pos (List.mem_map_of_mem z4)]
  · obtain ⟨a1, _, f1, _, _, _, m1⟩ := own1 (inA (by intro z; cases z) e1)
    obtain ⟨a2, _, f2, _, _, _, m2⟩ := own1 (inA (by intro z; cases z) e2)
    have g1 := inV f1
    have g2 := inV f2
    rw [e3] at g1
    rw [e4] at g2
    cases g1
    cases g2
    have := nodup_snd nd m1 m2 rfl
    cases this
    rfl
  · obtain ⟨j, e1, e2, o, e3⟩ := kpOf_mem 0 h p hp
    rw [Nat.zero_add] at e1
    subst e1
    refine ⟨inV e2, .inr ⟨o, ?_⟩⟩
    rw [List.getElem?_append_left (List.getElem?_eq_some_iff.mp e3).1]
    exact e3
/-- at the end of a body -/
theorem rel_back {σ : L2.St} {H' G' : Hp} {ρ : Rho} (h : RSls K H G vs args) (w : Rel K (basOf vs args H G) σ H' G' ρ) : Back K (kpOf 0 vs args) H G (ρ.take args.length) H' G' := by
  have inB : ∀ {a : Addr}, (∀ p ∈ kpOf 0 vs args, p.2 ≠ a) → (basOf vs args H G).B a = H a := fun {a} n => if_neg fun z => by
    obtain ⟨p, hp, e⟩ := List.mem_map.mp z
    exact n p hp e
  have atOw : ∀ p ∈ kpOf 0 vs args, ∃ o hh, (ρ.take args.length)[p.1]? = some (.own o) ∧ H' p.2 = some hh ∧ G' p.2 = none ∧ RpO K G' hh o := fun p hp => by
    obtain ⟨e1, z0 | ⟨o, e2⟩⟩ := w.kep p hp
    · cases z0
    obtain ⟨a, hh, f1, f2, f3, f4, f5⟩ := w.own p.1 o e2
    rw [e1] at f1
    cases f1
    obtain ⟨j, g1, g2, o', g3⟩ := kpOf_mem 0 h p hp
    have hj : p.1 < args.length := by
      have := (List.getElem?_eq_some_iff.mp g3).1
      omega
    exact ⟨o, hh, by rw [List.getElem?_take_of_lt hj]; exact e2, f2, f3, f5⟩
  refine ⟨w.sub, w.gro, fun a o e n => ?_, fun a e => ?_, atOw⟩
  · have hb := inB n
    refine ⟨w.bas a o (by rw [hb]; exact e), fun g => w.prt a (by rw [hb, e]; exact fun z => by cases z) g⟩
  · cases q : H a with
    | none => rfl
    | some o =>
      by_cases n : ∀ p ∈ kpOf 0 vs args, p.2 ≠ a
      · have := w.bas a o (by rw [inB n]; exact q)
        rw [e] at this; cases this
      · exfalso
        refine n fun p hp z => ?_
        obtain ⟨o', hh, _, f, _⟩ := atOw p hp
        rw [z, e] at f; cases f
theorem rel_res {σ : L2.St} {H' G' J : Hp} {ρ : Rho} {v : V} {r : R} (h : RSls K H G vs args) (w : Rel K (basOf vs args H G) σ H' G' ρ) (q : Rv K (basOf vs args H G) σ J H' G' ρ v r) (hr : NoB r) : Res K H H' G' v r := by
  cases r with
  | dat d => exact q
  | bor i => exact absurd rfl (hr i)
  | own o =>
    obtain ⟨a, hh, rfl, z1, z2, z3, z4, z5, z6⟩ := q
    refine ⟨a, hh, rfl, z1, z2, z4, ?_⟩
    have z3' : (if a ∈ (kpOf 0 vs args).map (·.2) then none else H a) = none := z3
    split at z3'
    · rename_i hm
      obtain ⟨p, hp, e⟩ := List.mem_map.mp hm
      subst e
      obtain ⟨e1, z0 | ⟨o', e2⟩⟩ := w.kep p hp
      · cases z0
      exact absurd e1 (z5 p.1 o' e2)
    · exact z3'
end
section
variable {P : Program} {w : World} {K : PySem.W.Frag} {mg : Str → Option Value} {base : Heap}
theorem RSls.n {H G : Hp} {vs : List V} {args : List Sl} (h : RSls K H G vs args) (n : Nat) (e : args.length = n) : vs.length = n := h.len.trans e
/-- a def that raises nothing keeps a promise over data -/
theorem fnG_ok {k : Nat} {x qual : Str} {st : Stmt} {f : Addr} {fd : FuncData} {N ps : List Str} {sp : DSp} (F : Fun K x qual st f fd) (S : FnScope N ps (defScope st)) (len : ∀ args QD ED, sp args QD ED → args.length = ps.length)
    (body : ∀ (cdv : Value) (A : Around) (out : List Env) (s0 : Shared) (H : Hp) (b : Bas) (args : List Sl) (QD : R → List Sl → Prop) (ED : Xc → List Sl → Prop) (E : XK), Room k (A.deeper (envOfC qual (defScope st) s0.heap.objs.size f cdv)) → (A.deeper (envOfC qual (defScope st) s0.heap.objs.size f cdv)).guards = some [] →
      b.kp.map (·.1) = ixOf 0 args → sp args QD ED →
      ∃ sd, PSsD (cxOf CX0 P w K mg base N qual (defScope st) f cdv A out s0 H E).nox b (defBody st) sd ∧
        sd { nx := fun ρ => QD (.dat .non) (ρ.take args.length), rt := fun r ρ => match r with | .bor _ => False | r => QD r (ρ.take args.length) } (args ++ List.replicate (N.length - args.length) .no)) : FnG P w K mg base CX0 (k + 1) f fd ps (toSp K sp) := by
  refine fnG_mk F S (fun xs H Q E h => ?_) fun cdv A out s0 H xs Q E room grd h => ?_
  · obtain ⟨G, args, QD, ED, hs, ra, nd, h, _⟩ := h
    exact ra.len.trans (len args QD ED h)
  · obtain ⟨G, args, QD, ED, hs, ra, nd, h, kq, ke⟩ := h
    obtain ⟨sd, d, q⟩ := body cdv A out s0 H (basOf xs args H G) args QD ED E room grd (kpOf_ix 0 ra) h
    refine ⟨_, d.nox, G, _, _, rel_start hs ra nd, q, fun σ' H' G' ρ' w' x z => ?_, fun v σ' H' G' r ρ' J w' x qv z => ?_, fun _ _ _ _ _ _ z => z, fun _ _ _ _ _ _ z => z⟩
    · exact kq .non H' G' (.dat .non) _ (rel_back ra w') .non z
    · cases r with
      | dat d => exact kq v H' G' (.dat d) _ (rel_back ra w') (rel_res ra w' qv (nob_dat d)) z
      | own o => exact kq v H' G' (.own o) _ (rel_back ra w') (rel_res ra w' qv (nob_own o)) z
      | bor i => exact z.elim
end
end DL

set_option Elab.async false
set_option maxRecDepth 100000
set_option maxHeartbeats 4000000
/-! DL5: calls of defs by their promises; objects that are changed; fields; comprehensions. -/
namespace DL
open PySem PySem.Spec PyProof.Rows L2

section
variable {K : PySem.W.Frag} {b : Bas} {σ : L2.St} {H G H' G' : Hp} {ρ : Rho}
/-- behind something that keeps all there is -/
theorem Rel.on (w : Rel K b σ H G ρ) (sub : Ex G' H') (ex : Ex G G') (kep : ∀ (c : Addr) (u : HO), H c = some u → H' c = some u ∧ (G c = none → G' c = none)) : Rel K b σ H' G' ρ where
  sub := sub
  bas := fun a o e => (kep a o (w.bas a o e)).1
  gro := w.gro.trans ex
  prt := fun a h1 h2 => by
    cases q : b.B a with
    | none => exact absurd q h1
    | some o => exact (kep a o (w.bas a o q)).2 (w.prt a h1 h2)
  len := w.len
  dat := fun i d e => by
    obtain ⟨v, z1, z2⟩ := w.dat i d e
    exact ⟨v, z1, z2.up ex⟩
  own := fun i o e => by
    obtain ⟨a, h, z1, z2, z3, z4, z5⟩ := w.own i o e
    exact ⟨a, h, z1, (kep a h z2).1, (kep a h z2).2 z3, z4, z5.up ex⟩
  dis := w.dis
  kep := w.kep
theorem Fm.on (ex : Ex G G') (kep : ∀ (c : Addr) (u : HO), H c = some u → H' c = some u ∧ (G c = none → G' c = none)) (dm : ∀ a, H' a = none → H a = none) : Fm σ ρ H G ρ H' G' :=
  ⟨ex, fun a o h _ => kep a o h, fun _ o h => ⟨o, h⟩, dm⟩
/-- behind something that changes the object of one slot -/
theorem Rel.chg {i : Nat} {o o' : Own} {a : Addr} {h' : HO} (w : Rel K b σ H G ρ) (hr : ρ[i]? = some (.own o)) (ha : σ[i]? = some (some (.ref a))) (sub : Ex G' H') (ex : Ex G G') (kep : ∀ (c : Addr) (u : HO), H c = some u → c ≠ a → H' c = some u ∧ (G c = none → G' c = none))
    (hat : H' a = some h') (hg : G' a = none) (r : RpO K G' h' o') : Rel K b σ H' G' (ρ.set i (.own o')) := by
  obtain ⟨a', h0, q1, q2, q3, q4, q5⟩ := w.own i o hr
  rw [ha] at q1
  cases q1
  have il : i < ρ.length := (List.getElem?_eq_some_iff.mp hr).1
  have nb : ∀ c, b.B c ≠ none → c ≠ a := fun c h z => h (by rw [z]; exact q4)
  have old : ∀ (j : Nat) (o1 : Own), (ρ.set i (.own o'))[j]? = some (.own o1) → ∃ o2, ρ[j]? = some (.own o2) := fun j o1 z => by
    rcases set_at z with ⟨rfl, _, _⟩ | ⟨_, z⟩
    · exact ⟨o, hr⟩
    · exact ⟨o1, z⟩
  refine ⟨sub, fun c u e => ?_, w.gro.trans ex, fun c h1 h2 => ?_, by rw [List.length_set]; exact w.len, fun j d e => ?_, fun j o1 e => ?_, fun j k o1 o2 c e1 e2 e3 e4 => ?_, fun p hp => ?_⟩
  · exact (kep c u (w.bas c u e) (nb c (by rw [e]; exact fun z => by cases z))).1
  · cases q : b.B c with
    | none => exact absurd q h1
    | some u => exact (kep c u (w.bas c u q) (nb c h1)).2 (w.prt c h1 h2)
  · rcases set_at e with ⟨rfl, e, hl⟩ | ⟨hn, e⟩
    · cases e
    · obtain ⟨v, z1, z2⟩ := w.dat j d e
      exact ⟨v, z1, z2.up ex⟩
  · rcases set_at e with ⟨rfl, e, hl⟩ | ⟨hn, e⟩
    · cases e
      exact ⟨a, h', ha, hat, hg, q4, r⟩
    · obtain ⟨c, h, z1, z2, z3, z4, z5⟩ := w.own j o1 e
      have hc : c ≠ a := fun z => by subst z; exact hn (w.dis j i o1 o c e hr z1 ha)
      exact ⟨c, h, z1, (kep c h z2 hc).1, (kep c h z2 hc).2 z3, z4, z5.up ex⟩
  · obtain ⟨o3, e1⟩ := old j o1 e1
    obtain ⟨o4, e2⟩ := old k o2 e2
    exact w.dis j k o3 o4 c e1 e2 e3 e4
  · obtain ⟨z1, z0⟩ := w.kep p hp
    by_cases hi : p.1 = i
    · exact ⟨z1, .inr ⟨o', by rw [hi]; exact set_eq il⟩⟩
    · rcases z0 with z0 | ⟨o1, z2⟩
      · exact ⟨z1, .inl z0⟩
      · exact ⟨z1, .inr ⟨o1, by rw [set_ne hi]; exact z2⟩⟩
theorem Fm.chg {i : Nat} {o o' : Own} {a : Addr} (hr : ρ[i]? = some (.own o)) (ha : σ[i]? = some (some (.ref a))) (ex : Ex G G') (kep : ∀ (c : Addr) (u : HO), H c = some u → c ≠ a → H' c = some u ∧ (G c = none → G' c = none))
    (dm : ∀ a, H' a = none → H a = none) : Fm σ ρ H G (ρ.set i (.own o')) H' G' :=
  ⟨ex, fun c u h n => kep c u h fun z => n i o hr (by rw [z]; exact ha), fun j o1 z => by
    rcases set_at z with ⟨rfl, _, _⟩ | ⟨_, z⟩
    · exact ⟨o, hr⟩
    · exact ⟨o1, z⟩, dm⟩
theorem Rv.res {v : V} {r : R} {J : Hp} {ρ' : Rho} (w : Rel K b σ H G ρ) (ow : ∀ (i : Nat) (o : Own), ρ'[i]? = some (.own o) → ∃ o', ρ[i]? = some (.own o')) (dm : ∀ a, H a = none → J a = none) (q : Res K H H' G' v r) : Rv K b σ J H' G' ρ' v r := by
  cases r with
  | dat d => exact q
  | bor i => exact q.elim
  | own o =>
    obtain ⟨a, h, rfl, z1, z2, z3, z4⟩ := q
    refine ⟨a, h, rfl, z1, z2, w.bas.gone z4, z3, fun i o' e => ?_, dm a z4⟩
    obtain ⟨o2, e⟩ := ow i o' e
    exact w.apart z4 i o2 e
theorem RpA.sls {vs : List V} {ds : List D} {H : Hp} (r : RpA K G vs ds) : RSls K H G vs (ds.map .dat) := by
  induction ds generalizing vs with
  | nil => cases r; exact .nil
  | cons d ds ih => cases r with | cons h r => exact .cons h (ih r)
theorem kpOf_dat : ∀ (vs : List V) (ds : List D) (n : Nat), kpOf n vs (ds.map .dat) = []
  | [], [], _ => rfl
  | [], _ :: _, _ => rfl
  | v :: vs, [], _ => by cases v <;> rfl
  | v :: vs, d :: ds, n => by
    have := kpOf_dat vs ds (n + 1)
    cases v <;> exact this
end

/-! ### calls -/
/-- f(..), every argument as data -/
def wCall (ks : List Nat) (sp : DSp) (t : TAD) : TD := fun ρ Q => t ρ fun rs ρ1 => lk (frzs ks rs ρ1) fun p => sp (p.1.map .dat) (fun r _ => Q r p.2) fun _ _ => False
/-- f(x, ..), the object of the name x by reference -/
def wCallR (ks : List Nat) (sp : DSp) (t : TAD) : TD := fun ρ Q => t ρ fun rs ρ1 => match rs with
  | .bor i :: rest => lk (frzs ks rest ρ1) fun p => match p.2[i]? with
    | some (.own o) => sp (.own o :: p.1.map .dat) (fun r args' => match args' with
      | .own o' :: _ => Q r (p.2.set i (.own o'))
      | _ => False) fun _ _ => False
    | _ => False
  | _ => False
section
variable {K : PySem.W.Frag} {b : Bas} {ks : List Nat} {sp : DSp} {t : TAD} {E : XK} {σ : L2.St} {H : Hp} {Q : VK}
theorem call_go (hk : b.kp.map (·.1) = ks) (q : lift K b (wCall ks sp t) σ H Q) : tCallG (toSp K sp) E (liftA K b t) σ H Q := by
  obtain ⟨G, ρ, QD, w, q, k⟩ := q
  refine ⟨G, ρ, _, w, q, fun vs H1 G1 rs ρ1 w1 m1 q1 z => ?_⟩
  obtain ⟨p, e1, z⟩ := lk_get z
  obtain ⟨ds, ρ2⟩ := p
  obtain ⟨G2, w2, m2, r2, x2⟩ := Rel.frzs hk w1 m1 q1 e1
  refine ⟨G2, ds.map .dat, _, _, w2.sub, r2.sls, by rw [kpOf_dat]; exact List.nodup_nil, z, fun v H' G' r args' bk rs z' => ?_, fun _ _ _ _ _ _ _ z' => z'.elim⟩
  rw [kpOf_dat] at bk
  have kep : ∀ (c : Addr) (u : HO), H1 c = some u → H' c = some u ∧ (G2 c = none → G' c = none) := fun c u h => bk.kep c u h fun _ hp => by cases hp
  have m3 : Fm σ ρ2 H1 G2 ρ2 H' G' := Fm.on bk.ex kep bk.dm
  exact k v H' G' r ρ2 (w2.on bk.sub bk.ex kep) (m2.trans m3) (Rv.res w2 (fun _ o h => ⟨o, h⟩) m2.dm rs) z'
theorem callR_go (hk : b.kp.map (·.1) = ks) (q : lift K b (wCallR ks sp t) σ H Q) : tCallG (toSp K sp) E (liftA K b t) σ H Q := by
  obtain ⟨G, ρ, QD, w, q, k⟩ := q
  refine ⟨G, ρ, _, w, q, fun vs H1 G1 rs ρ1 w1 m1 q1 z => ?_⟩
  cases q1 with
  | nil => exact z.elim
  | cons p1 p2 p3 =>
    rename_i v vs r rs
    cases r with
    | dat d => exact z.elim
    | own o => exact z.elim
    | bor i =>
      have p1' : σ[i]? = some (some v) := p1
      obtain ⟨p, e1, z⟩ := lk_get z
      obtain ⟨ds, ρ2⟩ := p
      obtain ⟨G2, w2, m2, r2, x2⟩ := Rel.frzs hk w1 m1 p3 e1
      dsimp only at z
      split at z
      · rename_i o ho
        obtain ⟨a, h, z1, z2, z3, z4, z5⟩ := w2.own i o ho
        rw [z1] at p1'
        cases p1'
        have ekp : kpOf 0 (V.ref a :: vs) (.own o :: ds.map .dat) = [(0, a)] := by
          show (0, a) :: kpOf 1 vs (ds.map .dat) = [(0, a)]
          rw [kpOf_dat]
        refine ⟨G2, .own o :: ds.map .dat, _, _, w2.sub, .cons ⟨a, h, rfl, z2, z3, z5⟩ r2.sls, by rw [ekp]; exact List.nodup_cons.mpr ⟨by simp, List.nodup_nil⟩, z, fun v H' G' r args' bk rs z' => ?_, fun _ _ _ _ _ _ _ z' => z'.elim⟩
        rw [ekp] at bk
        obtain ⟨o', h', y1, y2, y3, y4⟩ := bk.ow (0, a) List.mem_cons_self
        have kep : ∀ (c : Addr) (u : HO), H1 c = some u → c ≠ a → H' c = some u ∧ (G2 c = none → G' c = none) := fun c u h n => bk.kep c u h fun p hp e => by
          rcases List.mem_cons.mp hp with rfl | hp
          · exact n e.symm
          · cases hp
        split at z'
        · rename_i o2 rest
          have e2 : o2 = o' := by
            have y1' : some (Sl.own o2) = some (Sl.own o') := y1
            cases y1'
            rfl
          subst e2
          have m3 : Fm σ ρ2 H1 G2 (ρ2.set i (.own o2)) H' G' := Fm.chg ho z1 bk.ex kep bk.dm
          exact k v H' G' r _ (w2.chg ho z1 bk.sub bk.ex kep y2 y3 y4) (m2.trans m3) (Rv.res w2 m3.ow m2.dm rs) z'
        · exact z'.elim
      · exact z.elim
end
section
variable {X : Cx} {b : Bas} {CX : CXT} {k : Nat} {f : Addr} {fd : FuncData} {ps : List Str} {sp : DSp} {x : Str} {p pos : Pos} {e : Expr} {es : List Expr} {t : TAD} {ks : List Nat}
/-- what a caller knows of a def that raises nothing -/
structure Known (X : Cx) (k : Nat) (x : Str) (sp : DSp) : Prop where
  ex : ∃ (f : Addr) (fd : FuncData) (ps : List Str), FnG X.prog X.w X.K X.mg X.base CX0 k f fd ps (toSp X.K sp) ∧ X.mg x = some (.ref f) ∧ PySem.W.keepIn X.K (.ref f) = true ∧ Binds X.K fd ps []
theorem d_call (hk : b.kp.map (·.1) = ks) (F : Known X k x sp) (room : Room k X.A) (grd : X.A.guards = some []) (hg : Gl X x) (args : PAD X b (e :: es) t)
    (hd : (x == ("__debug__" : Str)) = false := by decide) (hs : starEach (e :: es) X.env = (false, eval e X.env) :: starEach es X.env := by rfl) (hp : (backTo pos (starEach es X.env)).any (·.1) = false := by rfl) :
    PD X b (.Call (.Name x p) (e :: es) [] pos) (wCall ks sp t) := by
  obtain ⟨f, fd, ps, F, hm, kept, bind⟩ := F.ex
  exact pe_weak (pe_callG F room grd hg hm kept bind pass0 args hd hs hp) fun _ _ _ q => call_go hk q
theorem d_callR (hk : b.kp.map (·.1) = ks) (F : Known X k x sp) (room : Room k X.A) (grd : X.A.guards = some []) (hg : Gl X x) (args : PAD X b (e :: es) t)
    (hd : (x == ("__debug__" : Str)) = false := by decide) (hs : starEach (e :: es) X.env = (false, eval e X.env) :: starEach es X.env := by rfl) (hp : (backTo pos (starEach es X.env)).any (·.1) = false := by rfl) :
    PD X b (.Call (.Name x p) (e :: es) [] pos) (wCallR ks sp t) := by
  obtain ⟨f, fd, ps, F, hm, kept, bind⟩ := F.ex
  exact pe_weak (pe_callG F room grd hg hm kept bind pass0 args hd hs hp) fun _ _ _ q => callR_go hk q
end

/-! ### built-in functions and types by values -/
def FnB (K : PySem.W.Frag) (r : List V → Hp → VK → Prop) (g : List D → Option Z) : Prop := ∀ (H G : Hp) (xs : List V) (ds : List D) (z : Z) (Q : VK), Ex G H → Paired (Rc K H G) xs ds → g ds = some z → (∀ v H', Out K H G v H' z → Q v H') → r xs H Q
def conL (ρ : Rho) : List R → Option (List D)
  | [] => some []
  | r :: rs => (con ρ r).bind fun d => (conL ρ rs).map fun ds => d :: ds
def wB (g : List D → Option Z) (t : TAD) : TD := fun ρ Q => t ρ fun rs ρ1 => lk (conL ρ1 rs) fun ds => lk (g ds) fun z => Q z.r ρ1
theorem RvA.rc {K : PySem.W.Frag} {b : Bas} {σ : L2.St} {J H G : Hp} {ρ : Rho} (w : Rel K b σ H G ρ) : ∀ {vs : List V} {rs : List R} {ds : List D}, RvA K b σ J H G ρ vs rs → conL ρ rs = some ds → Paired (Rc K H G) vs ds
  | _, _, ds, .nil, e => by cases e; exact .nil
  | _, _, ds, .cons (r := r) (rs := rs) h1 h2 h3, e => by
    unfold conL at e
    cases e1 : con ρ r with
    | none => rw [e1] at e; cases e
    | some d =>
      rw [e1] at e
      have e' : Option.map (fun ds => d :: ds) (conL ρ rs) = some ds := e
      cases e2 : conL ρ rs with
      | none => rw [e2] at e'; cases e'
      | some ds2 =>
        rw [e2] at e'
        cases e'
        exact .cons (h1.rc w e1) (RvA.rc w h3 e2)
theorem wB_go {K : PySem.W.Frag} {b : Bas} {r : List V → Hp → VK → Prop} {g : List D → Option Z} (hr : FnB K r g) {t : TAD} {σ : L2.St} {H : Hp} {Q : VK} (q : lift K b (wB g t) σ H Q) : tCB r (liftA K b t) σ H Q := by
  obtain ⟨G, ρ, QD, w, q, k⟩ := q
  refine ⟨G, ρ, _, w, q, fun vs H1 G1 rs ρ1 w1 m1 q1 z => ?_⟩
  obtain ⟨ds, e1, z⟩ := lk_get z
  obtain ⟨y, e2, z⟩ := lk_get z
  refine hr H1 G1 vs ds y Q w1.sub (q1.rc w1 e1) e2 fun v H' o => ?_
  obtain ⟨G', w', m', q'⟩ := o.go w1
  exact k v H' G' _ ρ1 w' (m1.trans m') (q'.back m1.dm) z
section
variable {X : Cx} {b : Bas} {x : Str} {p pos : Pos} {e : Expr} {es : List Expr} {t : TAD} {id T : String} {r : List V → Hp → VK → Prop} {g : List D → Option Z}
theorem d_b (hc : CallR X (.builtin id) r) (hr : FnB X.K r g) (hg : Gl X x) (hm : X.mg x = none) (hv : bootBuiltins x = some (.builtin id)) (ha : PAD X b (e :: es) t) (hn : x ≠ "__name__" := by decide) (hdb : (x == ("__debug__" : Str)) = false := by decide)
    (hs : starEach (e :: es) X.env = (false, eval e X.env) :: starEach es X.env := by rfl) (hp : (backTo pos (starEach es X.env)).any (·.1) = false := by rfl) : PD X b (.Call (.Name x p) (e :: es) [] pos) (wB g t) :=
  pe_weak (pe_callB hc hg hm hv ha hn hdb hs hp) fun _ _ _ q => wB_go hr q
theorem d_ty (hc : CallR X (.type T) r) (hr : FnB X.K r g) (hg : Gl X x) (hm : X.mg x = none) (hv : bootBuiltins x = some (.type T)) (ha : PAD X b (e :: es) t) (hn : x ≠ "__name__" := by decide) (hdb : (x == ("__debug__" : Str)) = false := by decide)
    (hs : starEach (e :: es) X.env = (false, eval e X.env) :: starEach es X.env := by rfl) (hp : (backTo pos (starEach es X.env)).any (·.1) = false := by rfl) : PD X b (.Call (.Name x p) (e :: es) [] pos) (wB g t) :=
  pe_weak (pe_callTy hc hg hm hv ha hn hdb hs hp) fun _ _ _ q => wB_go hr q
end
end DL

set_option Elab.async false
set_option maxRecDepth 100000
set_option maxHeartbeats 4000000
/-! DL6: methods that change a slot's list, stores, fields, what is walked, list comprehensions. -/
namespace DL
open PySem PySem.Spec PyProof.Rows L2

/-! ### a method of a slot's list -/
def wMut (ks : List Nat) (i : Nat) (g : List D → List D → Option (List D × D)) (t : TAD) : TD := fun ρ Q => match ρ[i]? with
  | some (.own (.lst _)) => t ρ fun rs ρ1 => lk (frzs ks rs ρ1) fun p => match p.2[i]? with
    | some (.own (.lst l)) => lk (g l p.1) fun q => Q (.dat q.2) (p.2.set i (.own (.lst q.1)))
    | _ => False
  | _ => False
def MutL (K : PySem.W.Frag) (r : V → List V → Hp → VK → Prop) (g : List D → List D → Option (List D × D)) : Prop := ∀ (H G : Hp) (a : Addr) (xs ys : List V) (ls ds l' : List D) (z : D) (Q : VK), Ex G H → H a = some (.lst xs) → G a = none → RpA K G xs ls → RpA K G ys ds → g ls ds = some (l', z) →
  (∀ v xs', RpA K G xs' l' → Rp K G v z → Q v (upd H a (.lst xs'))) → r (.ref a) ys H Q
theorem mut_kep {H G : Hp} {a : Addr} {h h' : HO} (ha : H a = some h) : (∀ (c : Addr) (u : HO), H c = some u → c ≠ a → upd H a h' c = some u ∧ (G c = none → G c = none)) ∧ ∀ c, upd H a h' c = none → H c = none :=
  ⟨fun c u e n => ⟨by rw [upd_ne n]; exact e, fun z => z⟩, fun c e => by
    by_cases n : c = a
    · subst n; rw [upd_same] at e; cases e
    · rw [upd_ne n] at e; exact e⟩
theorem mut_go {K : PySem.W.Frag} {b : Bas} {ks : List Nat} {i : Nat} {g : List D → List D → Option (List D × D)} {r : V → List V → Hp → VK → Prop} (hr : MutL K r g) (hk : b.kp.map (·.1) = ks) {t : TAD} {σ : L2.St} {H : Hp} {Q : VK} (q : lift K b (wMut ks i g t) σ H Q) :
    tBM K "list" r (tVar i) (liftA K b t) σ H Q := by
  obtain ⟨G, ρ, QD, w, q, k⟩ := q
  unfold wMut at q
  split at q
  · rename_i l0 hr0
    obtain ⟨a, h, z1, z2, z3, z4, z5⟩ := w.own i _ hr0
    have : ∃ xs, h = .lst xs := by cases z5; exact ⟨_, rfl⟩
    obtain ⟨xs0, rfl⟩ := this
    refine ⟨.ref a, z1, .inl ⟨rfl, xs0, SqL.of z2⟩, G, ρ, _, w, q, fun vs H1 G1 rs ρ1 w1 m1 q1 z => ?_⟩
    obtain ⟨p, e1, z⟩ := lk_get z
    obtain ⟨ds, ρ2⟩ := p
    obtain ⟨G2, w2, m2, r2, x2⟩ := Rel.frzs hk w1 m1 q1 e1
    dsimp only at z
    split at z
    · rename_i l hl
      obtain ⟨q', e2, z⟩ := lk_get z
      obtain ⟨l', d⟩ := q'
      obtain ⟨a', h, y1, y2, y3, y4, y5⟩ := w2.own i _ hl
      rw [z1] at y1
      cases y1
      cases y5 with
      | lst y5 =>
        refine hr H1 G2 a _ vs l ds l' d Q w2.sub y2 y3 y5 r2 e2 fun v xs' ra rd => ?_
        obtain ⟨kp, dm⟩ := mut_kep (G := G2) (h' := .lst xs') y2
        have m3 : Fm σ ρ2 H1 G2 (ρ2.set i (.own (.lst l'))) (upd H1 a (.lst xs')) G2 := Fm.chg hl z1 (Ex.refl G2) kp dm
        exact k v _ G2 (.dat d) _ (w2.chg hl z1 (w2.sub.over y3) (Ex.refl G2) kp upd_same y3 (.lst ra)) (m2.trans m3) rd z
    · exact z.elim
  · exact q.elim
section
variable {X : Cx} {b : Bas} {ks : List Nat} {i : Nat} {o e : Expr} {es : List Expr} {t : TAD} {name : Str} {apos cpos : Pos} {id : String} {r : V → List V → Hp → VK → Prop} {g : List D → List D → Option (List D × D)}
theorem d_mut (hk : b.kp.map (·.1) = ks) (hg : MutL X.K r g) (hm : MtR X id r) (pa : PlainAttrs "list") (slot : Slot "list" name id) (hty : typeOf (.builtin id) = pure (.type "method_descriptor")) (ho : PE X o (tVar i)) (ha : PAD X b (e :: es) t)
    (hbase : attributeBase o name X.env (eval o X.env) = eval o X.env := by rfl)
    (hf : ((backTo cpos (starEach (e :: es) X.env)).all (fun x => !x.1) && (backToKw cpos (keywordEach [] X.env)).all (fun x => x.1.isSome) && decide ((e :: es).length + ([] : List Keyword).length + (if ([] : List Keyword).isEmpty then 0 else 1) < 30)) = true := by rfl)
    (hline : (apos.endLine == cpos.line) = true := by rfl) (he : starEach (e :: es) X.env = (false, eval e X.env) :: starEach es X.env := by rfl) (hpl : (backTo cpos (starEach es X.env)).any (·.1) = false := by rfl) :
    PD X b (.Call (.Attribute o name apos) (e :: es) [] cpos) (wMut ks i g t) := pe_weak (pe_bm pa slot hty hm ho ha hbase hf hline he hpl) fun _ _ _ q => mut_go hg hk q
end

/-! ### x[k] = e at a slot's list; n op= e -/
def wPut (ks : List Nat) (i : Nat) (ti ta : TD) : SD := fun DD ρ => ta ρ fun r ρ1 => lk (frz ks r ρ1) fun p => (∃ l0, p.2[i]? = some (.own (.lst l0))) ∧ ti p.2 fun rk ρ2 => lk (con ρ2 rk) fun dk => match dk, ρ2[i]? with
  | .int k, some (.own (.lst l)) => lk (ixN l.length k) fun j => DD.nx (ρ2.set i (.own (.lst (l.set j p.1))))
  | _, _ => False
theorem RpA.set {K : PySem.W.Frag} {G : Hp} {v : V} {d : D} (r : Rp K G v d) : ∀ {xs : List V} {ds : List D} (j : Nat), RpA K G xs ds → RpA K G (xs.set j v) (ds.set j d)
  | _, _, _, .nil => .nil
  | _, _, 0, .cons _ t => .cons r t
  | _, _, j + 1, .cons q t => .cons q (RpA.set r j t)
theorem Rc.int {K : PySem.W.Frag} {H G : Hp} {v : V} {k : Int} (r : Rc K H G v (.int k)) : v = .int k := by
  rcases r with r | ⟨a, h, o, rfl, h1, r, z⟩
  · cases r; rfl
  · cases o <;> cases z
theorem Rc.str {K : PySem.W.Frag} {H G : Hp} {v : V} {k : Str} (r : Rc K H G v (.str k)) : v = .str k := by
  rcases r with r | ⟨a, h, o, rfl, h1, r, z⟩
  · cases r; rfl
  · cases o <;> cases z
theorem Rc.bl {K : PySem.W.Frag} {H G : Hp} {v : V} {k : Bool} (r : Rc K H G v (.bl k)) : v = .bl k := by
  rcases r with r | ⟨a, h, o, rfl, h1, r, z⟩
  · cases r; rfl
  · cases o <;> cases z
theorem Rc.non {K : PySem.W.Frag} {H G : Hp} {v : V} (r : Rc K H G v .non) : v = .non := by
  rcases r with r | ⟨a, h, o, rfl, h1, r, z⟩
  · cases r; rfl
  · cases o <;> cases z
theorem Rc.lst {K : PySem.W.Frag} {H G : Hp} {v : V} {ds : List D} (e : Ex G H) (r : Rc K H G v (.lst ds)) : ∃ a xs, v = .ref a ∧ H a = some (.lst xs) ∧ RpA K G xs ds := by
  rcases r with r | ⟨a, h, o, rfl, h1, r, z⟩
  · cases r with | lst h1 h2 => exact ⟨_, _, rfl, e _ _ h1, h2⟩
  · cases r with
    | lst r => cases z; exact ⟨a, _, rfl, h1, r⟩
    | dct r => cases z
    | ins r => cases z
theorem Rc.fzl {K : PySem.W.Frag} {H G : Hp} {v : V} {ds : List D} (e : Ex G H) (r : Rc K H G v (.fzl ds)) : ∃ a xs, v = .ref a ∧ SqL K H a xs ∧ RpA K G xs ds := by
  rcases r with r | ⟨a, h, o, rfl, h1, r, z⟩
  · cases r with | fzl h1 h2 => exact ⟨_, _, rfl, e.sql h1, h2⟩
  · cases o <;> cases z
theorem Rc.tup {K : PySem.W.Frag} {H G : Hp} {v : V} {ds : List D} (e : Ex G H) (r : Rc K H G v (.tup ds)) : ∃ a xs, v = .ref a ∧ SqP K H a xs ∧ RpA K G xs ds ∧ Rp K G v (.tup ds) := by
  rcases r with r | ⟨a, h, o, rfl, h1, r, z⟩
  · have r0 := r
    cases r with | tup h1 h2 => exact ⟨_, _, rfl, e.sqp h1, h2, r0⟩
  · cases o <;> cases z
section
variable {X : Cx} {b : Bas} {ks : List Nat} {i : Nat} {o ek e : Expr} {ti ta : TD} {spos pos : Pos}
theorem s_put (hk : b.kp.map (·.1) = ks) (ho : PE X o (tVar i)) (hi : PD X b ek ti) (he : PD X b e ta) (ha : ∀ v, assign (.Subscript o ek spos) X.env v = (do let ov ← holding [v] (eval o X.env); let iv ← holding [v, ov] (eval ek X.env); standAt spos; holding [v, ov, iv] (setItem ov iv v); release [v, ov, iv] []) := by intro _; rfl)
    (hs : swapsWithSole [.Subscript o ek spos] e pos.line X.env = pure false := by rfl) (hw : swappedStores [.Subscript o ek spos] e X.env = pure none := by rfl) (h1 : (assignEach [.Subscript o ek spos] X.env).map (·.2) = [assign (.Subscript o ek spos) X.env] := by rfl) :
    PSD X b (.Assign [.Subscript o ek spos] e pos) (wPut ks i ti ta) := ps_weak (ps_asg he (pg_sub ho hi set_list ha) hs hw h1) fun D σ H q => by
  obtain ⟨G, ρ, DD, w, q, n, _⟩ := q
  refine ⟨G, ρ, _, w, q, fun v H1 G1 r ρ1 w1 m1 q1 z => ?_⟩
  obtain ⟨p, e1, z⟩ := lk_get z
  obtain ⟨d, ρ2⟩ := p
  obtain ⟨G2, w2, m2, x2, r2, _⟩ := w1.frz hk m1 q1 e1
  obtain ⟨⟨l0, hl0⟩, z⟩ := z
  obtain ⟨a, h0, hx, _⟩ := w2.own i _ hl0
  refine ⟨.ref a, hx, G2, ρ2, _, w2, z, fun u H3 G3 r3 ρ3 w3 m3 q3 z => ?_⟩
  obtain ⟨dk, e3, z⟩ := lk_get z
  split at z
  · rename_i k l hl
    obtain ⟨j, e4, z⟩ := lk_get z
    obtain ⟨a', h, y1, y2, y3, y4, y5⟩ := w3.own i _ hl
    rw [hx] at y1
    cases y1
    cases y5 with
    | lst y5 =>
      rename_i xs
      obtain rfl := (q3.rc w3 e3).int
      obtain ⟨kp, dm⟩ := mut_kep (G := G3) (h' := .lst (xs.set j v)) y2
      exact ⟨a, xs, k, j, rfl, rfl, y2, by rw [y5.len]; exact e4, n σ _ G3 _ (w3.chg hl hx (w3.sub.over y3) (Ex.refl G3) kp upd_same y3 (.lst (RpA.set (r2.up m3.ex) j y5))) (m2.ex.trans m3.ex) z⟩
  · exact z.elim
/-- n op= e, n a number's or text's name -/
def wAug (ks : List Nat) (i : Nat) (g : D → D → Option Z) (ta : TD) : SD := fun DD ρ => match ρ[i]? with
  | some (.dat d0) => ta ρ fun r ρ1 => lk (con ρ1 r) fun d => lk (g d0 d) fun z => if i ∈ ks then False else DD.nx (ρ1.set i z.r.sl)
  | _ => False
end

/-! ### fields -/
def insD (C : Addr) : D → Option (List (Str × D))
  | .ins C' l => if C' = C then some l else none
  | _ => none
def wFld (C : Addr) (f : Str) (ta : TD) : TD := fun ρ Q => ta ρ fun r ρ1 => lk ((con ρ1 r).bind (insD C)) fun l => lk (l.lookup f) fun d => Q (.dat d) ρ1
theorem RpF.look {K : PySem.W.Frag} {G : Hp} {f : Str} : ∀ {fs : List (Str × V)} {ds : List (Str × D)}, RpF K G fs ds → ∀ {d : D}, ds.lookup f = some d → ∃ v, fs.lookup f = some v ∧ Rp K G v d
  | _, _, .nil, d, h => by cases h
  | _, _, .cons (k := k) h r, d, e => by
    unfold List.lookup at e ⊢
    split at e
    · cases e
      exact ⟨_, rfl, h⟩
    · exact r.look e
theorem RpF.len {K : PySem.W.Frag} {G : Hp} : ∀ {fs : List (Str × V)} {ds : List (Str × D)}, RpF K G fs ds → fs.length = ds.length
  | _, _, .nil => rfl
  | _, _, .cons _ r => congrArg (· + 1) r.len
def putD (f : Str) (d : D) : List (Str × D) → List (Str × D)
  | [] => [(f, d)]
  | (g, x) :: r => if g = f then (g, d) :: r else (g, x) :: putD f d r
theorem RpF.put {K : PySem.W.Frag} {G : Hp} {f : Str} {v : V} {d : D} (q : Rp K G v d) : ∀ {fs : List (Str × V)} {ds : List (Str × D)}, RpF K G fs ds → RpF K G (putF f v fs) (putD f d ds)
  | _, _, .nil => .cons q .nil
  | _, _, .cons (k := k) h r => by
    unfold putF putD
    by_cases e : k = f
    · rw [if_pos e, if_pos e]; exact .cons q r
    · rw [if_neg e, if_neg e]; exact .cons h (r.put q)
theorem Rc.ins {K : PySem.W.Frag} {H G : Hp} {v : V} {C : Addr} {l : List (Str × D)} (e : Ex G H) (r : Rc K H G v (.ins C l)) : ∃ a dx fs, v = .ref a ∧ H a = some (.ins C dx fs) ∧ RpF K G fs l := by
  rcases r with r | ⟨a, h, o, rfl, h1, r, z⟩
  · cases r with | ins h1 h2 => exact ⟨_, _, _, rfl, e _ _ h1, h2⟩
  · cases r with
    | lst r => cases z
    | dct r => cases z
    | ins r => cases z; exact ⟨a, _, _, rfl, h1, r⟩
def wSetF (ks : List Nat) (i : Nat) (C : Addr) (f : Str) (ta : TD) : SD := fun DD ρ => ta ρ fun r ρ1 => lk (frz ks r ρ1) fun p => match p.2[i]? with
  | some (.own (.ins C' l)) => C' = C ∧ l.length < 1000 ∧ DD.nx (p.2.set i (.own (.ins C (putD f p.1 l))))
  | _ => False
section
variable {X : Cx} {b : Bas} {ks : List Nat} {i : Nat} {C : Addr} {f : Str} {o e : Expr} {ta : TD} {pos pos' : Pos}
end

/-! ### what is walked -/
def listD : D → Option (List D)
  | .lst l => some l
  | .fzl l => some l
  | _ => none
theorem listD_ok {K : PySem.W.Frag} {G : Hp} {v : V} {d : D} {l : List D} (r : Rp K G v d) (e : listD d = some l) : ∃ a xs, v = .ref a ∧ SqL K G a xs ∧ RpA K G xs l := by
  cases r with
  | lst h1 h2 => cases e; exact ⟨_, _, rfl, SqL.of h1, h2⟩
  | fzl h1 h2 => cases e; exact ⟨_, _, rfl, h1, h2⟩
  | _ => cases e
def wItR1 (t : TAD) : TID := fun ρ Q => t ρ fun rs ρ1 => lk (conL ρ1 rs) fun ds => match ds with
  | [.int j] => -(2 ^ 62) ≤ j ∧ j < 2 ^ 62 ∧ Q ((List.range j.toNat).map fun n => .int (n : Nat)) ρ1
  | _ => False
def wItR2 (t : TAD) : TID := fun ρ Q => t ρ fun rs ρ1 => lk (conL ρ1 rs) fun ds => match ds with
  | [.int i, .int j] => (-(2 ^ 62) ≤ i ∧ i < 2 ^ 62 ∧ -(2 ^ 62) ≤ j ∧ j < 2 ^ 62) ∧ Q ((List.range (j - i).toNat).map fun n => .int (i + (n : Nat))) ρ1
  | _ => False
def enumD : Nat → List D → List D
  | _, [] => []
  | n, d :: ds => .wt [.int (n : Nat), d] :: enumD (n + 1) ds
def wItE (ks : List Nat) (t : TAD) : TID := fun ρ Q => t ρ fun rs ρ1 => lk (frzs ks rs ρ1) fun p => match p.1 with
  | [x] => lk (listD x) fun l => Q (enumD 0 l) p.2
  | _ => False
theorem enumD_at : ∀ {l : List D} {n i : Nat} {d : D}, (enumD n l)[i]? = some d → ∃ x, l[i]? = some x ∧ d = .wt [.int ((n + i : Nat) : Int), x]
  | [], n, i, d, h => by unfold enumD at h; simp at h
  | x :: l, n, 0, d, h => by unfold enumD at h; cases h; exact ⟨x, rfl, rfl⟩
  | x :: l, n, i + 1, d, h => by
    unfold enumD at h
    obtain ⟨y, h1, h2⟩ := enumD_at (l := l) (n := n + 1) (i := i) (by simpa using h)
    exact ⟨y, by simpa using h1, by rw [h2]; congr 3; omega⟩
theorem enumD_len : ∀ (l : List D) (n : Nat), (enumD n l).length = l.length
  | [], _ => rfl
  | _ :: l, n => congrArg (· + 1) (enumD_len l (n + 1))
theorem RpA.at {K : PySem.W.Frag} {G : Hp} : ∀ {xs : List V} {ds : List D}, RpA K G xs ds → ∀ {i : Nat} {d : D}, ds[i]? = some d → ∃ v, xs[i]? = some v ∧ Rp K G v d
  | _, _, .nil, i, d, h => by simp at h
  | _, _, .cons h _, 0, d, e => by cases e; exact ⟨_, rfl, h⟩
  | _, _, .cons _ r, i + 1, d, e => by
    obtain ⟨v, h1, h2⟩ := RpA.at r (i := i) (d := d) (by simpa using e)
    exact ⟨v, by simpa using h1, h2⟩
section
variable {K : PySem.W.Frag} {G : Hp} {a : Addr} {xs : List V} {ds : List D}
theorem itD_list (h : SqL K G a xs) (r : RpA K G xs ds) : ItD K (Itl K a) ds G := fun i H G1 x1 x2 => by
  have hH := x2.sql (x1.sql h)
  refine ⟨fun d e => ?_, fun hl => ⟨xs, hH, by rw [r.len]; exact hl⟩⟩
  obtain ⟨v, h1, h2⟩ := r.at e
  refine ⟨⟨xs, v, hH, h1⟩, fun x H' y => ?_⟩
  obtain ⟨rfl, y⟩ := y
  have := y xs hH
  rw [h1] at this
  cases this
  exact ⟨.d d, rfl, rfl, h2.up x1⟩
theorem itD_tup (h : SqT K G a xs) (r : RpA K G xs ds) : ItD K (Itt K a) ds G := fun i H G1 x1 x2 => by
  have hH := x2.sqt (x1.sqt h)
  refine ⟨fun d e => ?_, fun hl => ⟨xs, hH, by rw [r.len]; exact hl⟩⟩
  obtain ⟨v, h1, h2⟩ := r.at e
  refine ⟨⟨xs, v, hH, h1⟩, fun x H' y => ?_⟩
  obtain ⟨rfl, y⟩ := y
  have := y xs hH
  rw [h1] at this
  cases this
  exact ⟨.d d, rfl, rfl, h2.up x1⟩
theorem itD_enum (h : SqL K G a xs) (r : RpA K G xs ds) : ItD K (Ite K a) (enumD 0 ds) G := fun i H G1 x1 x2 => by
  have hH := x2.sql (x1.sql h)
  refine ⟨fun d e => ?_, fun hl => ⟨xs, hH, by rw [r.len, ← enumD_len ds 0]; exact hl⟩⟩
  obtain ⟨y, e1, rfl⟩ := enumD_at e
  obtain ⟨v, h1, h2⟩ := r.at e1
  refine ⟨⟨xs, v, hH, h1⟩, fun x H' q => ?_⟩
  obtain ⟨T, x', rfl, hT, rfl, q⟩ := q
  have := q xs hH
  rw [h1] at this
  cases this
  refine ⟨.w [.int ((0 + i : Nat) : Int), y], rfl, T, _, rfl, hT, rfl, ?_⟩
  rw [Nat.zero_add]
  exact .cons (.int _) (.cons (h2.up x1) .nil)
theorem itD_range (lo : Int) (n : Nat) : ItD K (Itr lo n) ((List.range n).map fun k => .int (lo + (k : Nat))) G := fun i H G1 x1 x2 => by
  refine ⟨fun d e => ?_, fun hl => by rw [List.length_map, List.length_range] at hl; exact hl⟩
  rw [List.getElem?_map] at e
  have hi : i < n := by
    cases q : (List.range n)[i]? with
    | none => rw [q] at e; cases e
    | some k => have := (List.getElem?_eq_some_iff.mp q).1; rw [List.length_range] at this; exact this
  rw [List.getElem?_range hi] at e
  cases e
  exact ⟨hi, fun x H' y => by obtain ⟨rfl, rfl⟩ := y; exact ⟨.d (.int (lo + (i : Nat))), rfl, rfl, .int _⟩⟩
end
section
variable {X : Cx} {b : Bas} {ks : List Nat} {e e2 tg : Expr} {ta : TD} {t : TAD} {p pos : Pos}
theorem i_weak {wi wi' : TI} (h : PI X tg e wi) (w : ∀ σ H R, wi' σ H R → wi σ H R) : PI X tg e wi' := ⟨fun pins s σ H R I q => h.run pins s σ H R I (w σ H R q)⟩
theorem pair_int {xs : List V} {H G : Hp} {K : PySem.W.Frag} {j : Int} (h : Paired (Rc K H G) xs [.int j]) : xs = [.int j] := by
  cases h with | cons h1 h2 => cases h2; rw [h1.int]
theorem i_range1 (hg : Gl X "range") (hm : X.mg "range" = none) (ha : PAD X b [e] t) (hs : starEach [e] X.env = [(false, eval e X.env)] := by rfl) : PI X tg (.Call (.Name "range" p) [e] [] pos) (liftI X.K b (wItR1 t)) := i_weak (pi_range1 hg hm ha hs) fun σ H Rr q => by
  obtain ⟨G, ρ, QD, w, q, k⟩ := q
  refine ⟨G, ρ, _, w, q, fun vs H1 G1 rs ρ1 w1 m1 q1 z => ?_⟩
  obtain ⟨ds, e1, z⟩ := lk_get z
  have pr := q1.rc w1 e1
  split at z
  · rename_i j
    obtain rfl := pair_int pr
    have it := itD_range (K := X.K) (G := G1) 0 j.toNat
    have e0 : ((List.range j.toNat).map fun k => D.int (0 + (k : Nat))) = (List.range j.toNat).map fun n => D.int (n : Nat) := List.map_congr_left fun n _ => by rw [Int.zero_add]
    rw [e0] at it
    exact ⟨j, rfl, z.1, z.2.1, k _ H1 G1 _ ρ1 w1 m1 it z.2.2⟩
  · exact z.elim
theorem i_enum {tpos : Pos} {elts : List Expr} {kk : Nat} (hk : b.kp.map (·.1) = ks) (hg : Gl X "enumerate") (hm : X.mg "enumerate" = none) (ha : PAD X b [e] t) (hs : starEach [e] X.env = [(false, eval e X.env)] := by rfl) :
    PI X (.Tuple elts kk tpos) (.Call (.Name "enumerate" p) [e] [] pos) (liftI X.K b (wItE ks t)) := i_weak (pi_enum hg hm ha hs) fun σ H Rr q => by
  obtain ⟨G, ρ, QD, w, q, k⟩ := q
  refine ⟨G, ρ, _, w, q, fun vs H1 G1 rs ρ1 w1 m1 q1 z => ?_⟩
  obtain ⟨p, e1, z⟩ := lk_get z
  obtain ⟨ds, ρ2⟩ := p
  obtain ⟨G2, w2, m2, r2, x2⟩ := Rel.frzs hk w1 m1 q1 e1
  dsimp only at z
  split at z
  · rename_i x
    obtain ⟨l, e2, z⟩ := lk_get z
    cases r2 with
    | cons h1 h2 =>
      cases h2
      obtain ⟨a, xs, rfl, h1, h2⟩ := listD_ok h1 e2
      exact ⟨_, _, rfl, w2.sub.sql h1, k _ H1 G2 _ ρ2 w2 m2 (itD_enum h1 h2) z⟩
  · exact z.elim
end
end DL

set_option Elab.async false
set_option maxRecDepth 100000
set_option maxHeartbeats 4000000
/-! DL7: list comprehensions over data. -/
namespace DL
open PySem PySem.Spec PyProof.Rows L2

def wipR (ρ : Rho) : List Nat → Rho
  | [] => ρ
  | v :: vs => (wipR ρ vs).set v .no
def unw : List Nat → Rho → Rho → Rho
  | [], _, ρ2 => ρ2
  | v :: vs, ρ1, ρ2 => (unw vs ρ1 ρ2).set v ((ρ1[v]?).getD .no)
theorem wipe_at (σ : L2.St) : ∀ (vs : List Nat) (j : Nat), (wipe σ vs)[j]? = if j ∈ vs then (σ[j]?).map (fun _ => none) else σ[j]?
  | [], j => by simp [wipe]
  | v :: vs, j => by
    show ((wipe σ vs).set v none)[j]? = _
    by_cases e : j = v
    · subst e
      rw [if_pos List.mem_cons_self]
      by_cases hl : j < σ.length
      · rw [set_eq (by rw [wipe_length]; exact hl), List.getElem?_eq_getElem hl]; rfl
      · rw [List.getElem?_eq_none (by rw [List.length_set, wipe_length]; omega), List.getElem?_eq_none (by omega)]; rfl
    · rw [set_ne e, wipe_at σ vs j]
      by_cases h : j ∈ vs
      · rw [if_pos h, if_pos (List.mem_cons_of_mem _ h)]
      · rw [if_neg h, if_neg (fun z => by rcases List.mem_cons.mp z with z | z; exact e z; exact h z)]
theorem wipR_len (ρ : Rho) : ∀ vs : List Nat, (wipR ρ vs).length = ρ.length
  | [] => rfl
  | v :: vs => by show ((wipR ρ vs).set v .no).length = _; rw [List.length_set]; exact wipR_len ρ vs
theorem wipR_out (ρ : Rho) : ∀ {vs : List Nat} {j : Nat}, j ∉ vs → (wipR ρ vs)[j]? = ρ[j]?
  | [], j, _ => rfl
  | v :: vs, j, h => by
    show ((wipR ρ vs).set v .no)[j]? = _
    rw [set_ne (fun z => h (by rw [z]; exact List.mem_cons_self))]
    exact wipR_out ρ fun z => h (List.mem_cons_of_mem _ z)
theorem wipR_in (ρ : Rho) : ∀ {vs : List Nat} {j : Nat} {s : Sl}, j ∈ vs → (wipR ρ vs)[j]? = some s → s = .no
  | v :: vs, j, s, h, e => by
    have e' : ((wipR ρ vs).set v .no)[j]? = some s := e
    rcases set_at e' with ⟨rfl, z, _⟩ | ⟨hn, z⟩
    · exact z
    · exact wipR_in ρ (by rcases List.mem_cons.mp h with h | h; exact absurd h hn; exact h) z
theorem unw_len (ρ1 ρ2 : Rho) : ∀ vs : List Nat, (unw vs ρ1 ρ2).length = ρ2.length
  | [] => rfl
  | v :: vs => by show ((unw vs ρ1 ρ2).set v _).length = _; rw [List.length_set]; exact unw_len ρ1 ρ2 vs
theorem unw_out (ρ1 ρ2 : Rho) : ∀ {vs : List Nat} {j : Nat}, j ∉ vs → (unw vs ρ1 ρ2)[j]? = ρ2[j]?
  | [], j, _ => rfl
  | v :: vs, j, h => by
    show ((unw vs ρ1 ρ2).set v _)[j]? = _
    rw [set_ne (fun z => h (by rw [z]; exact List.mem_cons_self))]
    exact unw_out ρ1 ρ2 fun z => h (List.mem_cons_of_mem _ z)
theorem unw_in (ρ1 ρ2 : Rho) : ∀ {vs : List Nat} {j : Nat} {s : Sl}, j ∈ vs → (unw vs ρ1 ρ2)[j]? = some s → s = .no ∨ ρ1[j]? = some s
  | v :: vs, j, s, h, e => by
    have e' : ((unw vs ρ1 ρ2).set v ((ρ1[v]?).getD .no))[j]? = some s := e
    rcases set_at e' with ⟨rfl, z, _⟩ | ⟨hn, z⟩
    · cases q : ρ1[j]? with
      | none => rw [q] at z; exact .inl z
      | some t => rw [q] at z; exact .inr (by rw [z]; rfl)
    · exact unw_in ρ1 ρ2 (by rcases List.mem_cons.mp h with h | h; exact absurd h hn; exact h) z
section
variable {K : PySem.W.Frag} {b : Bas} {σ : L2.St} {H G : Hp} {ρ : Rho} {vs : List Nat}
theorem Rel.wipe (w : Rel K b σ H G ρ) (hk : ∀ p ∈ b.kp, p.1 ∉ vs) : Rel K b (L2.wipe σ vs) H G (wipR ρ vs) := by
  have out : ∀ {j : Nat} {s : Sl}, s ≠ .no → (wipR ρ vs)[j]? = some s → j ∉ vs ∧ ρ[j]? = some s := fun {j s} hs e => by
    by_cases h : j ∈ vs
    · exact absurd (wipR_in ρ h e) hs
    · rw [wipR_out ρ h] at e; exact ⟨h, e⟩
  have at_ : ∀ {j : Nat}, j ∉ vs → (L2.wipe σ vs)[j]? = σ[j]? := fun {j} h => by rw [wipe_at, if_neg h]
  refine ⟨w.sub, w.bas, w.gro, w.prt, by rw [wipe_length, wipR_len]; exact w.len, fun j d e => ?_, fun j o e => ?_, fun i j o o' a e1 e2 e3 e4 => ?_, fun p hp => ?_⟩
  · obtain ⟨h, e⟩ := out (by intro z; cases z) e
    rw [at_ h]; exact w.dat j d e
  · obtain ⟨h, e⟩ := out (by intro z; cases z) e
    rw [at_ h]; exact w.own j o e
  · obtain ⟨h1, e1⟩ := out (by intro z; cases z) e1
    obtain ⟨h2, e2⟩ := out (by intro z; cases z) e2
    rw [at_ h1] at e3
    rw [at_ h2] at e4
    exact w.dis i j o o' a e1 e2 e3 e4
  · have h := hk p hp
    rw [at_ h, wipR_out ρ h]; exact w.kep p hp
/-- the names of the comprehension are the frame's own again -/
theorem Rel.unwipe {H1 G1 : Hp} {ρ1 ρ2 : Rho} (w1 : Rel K b σ H1 G1 ρ1) (w2 : Rel K b (L2.wipe σ vs) H G ρ2) (x : Ex G1 G) (hv : ∀ v ∈ vs, ∀ o, ρ1[v]? ≠ some (.own o)) (hk : ∀ p ∈ b.kp, p.1 ∉ vs) : Rel K b σ H G (unw vs ρ1 ρ2) := by
  have at_ : ∀ {j : Nat}, j ∉ vs → (L2.wipe σ vs)[j]? = σ[j]? := fun {j} h => by rw [wipe_at, if_neg h]
  have own_ : ∀ {j : Nat} {o : Own}, (unw vs ρ1 ρ2)[j]? = some (.own o) → j ∉ vs ∧ ρ2[j]? = some (.own o) := fun {j o} e => by
    by_cases h : j ∈ vs
    · rcases unw_in ρ1 ρ2 h e with z | z
      · cases z
      · exact absurd z (hv j h o)
    · rw [unw_out ρ1 ρ2 h] at e; exact ⟨h, e⟩
  refine ⟨w2.sub, w2.bas, w2.gro, w2.prt, by rw [unw_len, ← w2.len, wipe_length], fun j d e => ?_, fun j o e => ?_, fun i j o o' a e1 e2 e3 e4 => ?_, fun p hp => ?_⟩
  · by_cases h : j ∈ vs
    · rcases unw_in ρ1 ρ2 h e with z | z
      · cases z
      · obtain ⟨v, y1, y2⟩ := w1.dat j d z
        exact ⟨v, y1, y2.up x⟩
    · rw [unw_out ρ1 ρ2 h] at e
      rw [← at_ h]
      exact w2.dat j d e
  · obtain ⟨h, e⟩ := own_ e
    rw [← at_ h]; exact w2.own j o e
  · obtain ⟨h1, e1⟩ := own_ e1
    obtain ⟨h2, e2⟩ := own_ e2
    rw [← at_ h1] at e3
    rw [← at_ h2] at e4
    exact w2.dis i j o o' a e1 e2 e3 e4
  · have h := hk p hp
    rw [← at_ h, unw_out ρ1 ρ2 h]; exact w2.kep p hp
/-- an object that is nobody's is changed -/
theorem Rel.touch {p : Addr} {h h' : HO} (w : Rel K b σ H G ρ) (hp : H p = some h) (hg : G p = none) (hb : b.B p = none) (hn : ∀ (i : Nat) (o' : Own), ρ[i]? = some (.own o') → σ[i]? ≠ some (some (.ref p))) : Rel K b σ (upd H p h') G ρ where
  sub := w.sub.over hg
  bas := w.bas.over hb
  gro := w.gro
  prt := w.prt
  len := w.len
  dat := w.dat
  own := fun i o e => by
    obtain ⟨a, u, z1, z2, z3⟩ := w.own i o e
    exact ⟨a, u, z1, by rw [upd_ne (fun z => hn i o e (by rw [← z]; exact z1))]; exact z2, z3⟩
  dis := w.dis
  kep := w.kep
end

def compL (ks : List Nat) (g : GD) (tt : TTD) (te : TD) (vs : List Nat) : List D → List D → Rho → (List D → Rho → Prop) → Prop
  | [], acc, ρ, Q => Q acc ρ
  | d :: ds, acc, ρ, Q => g d ρ fun ρ1 => tt ρ1 fun c ρ2 => if c = true then te ρ2 fun r ρ3 => lk (frz ks r ρ3) fun p => acc.length < sizeLine ∧ compL ks g tt te vs ds (acc ++ [p.1]) (wipR p.2 vs) Q else compL ks g tt te vs ds acc (wipR ρ2 vs) Q
def wLc (ks : List Nat) (ti : TID) (g : GD) (tt : TTD) (te : TD) (vs : List Nat) : TD := fun ρ Q => ti ρ fun ds ρ1 => (∀ v ∈ vs, v ∉ ks ∧ ∀ o, ρ1[v]? ≠ some (.own o)) ∧ compL ks g tt te vs ds [] (wipR ρ1 vs) fun acc ρ2 => Q (.own (.lst acc)) (unw vs ρ1 ρ2)
def wYes : TTD := fun ρ Q => Q true ρ
theorem RpA.snoc {K : PySem.W.Frag} {G : Hp} {v : V} {d : D} (q : Rp K G v d) : ∀ {xs : List V} {ds : List D}, RpA K G xs ds → RpA K G (xs ++ [v]) (ds ++ [d])
  | _, _, .nil => .cons q .nil
  | _, _, .cons h r => .cons h (r.snoc q)
theorem lc_go {K : PySem.W.Frag} {b : Bas} {ks is vs : List Nat} {ti : TID} {g : GD} {tt : TTD} {te : TD} (hk : b.kp.map (·.1) = ks) (hi : ∀ i ∈ is, i ∈ vs) {σ : L2.St} {H : Hp} {Q : VK} (q : lift K b (wLc ks ti g tt te vs) σ H Q) :
    tLc (liftI K b ti) (liftG K b is g) (liftT K b tt) (lift K b te) vs σ H Q := by
  obtain ⟨G, ρ, QD, w, q, k⟩ := q
  refine ⟨G, ρ, _, w, q, fun J H1 G1 ds ρ1 w1 m1 it z D hD => ?_⟩
  obtain ⟨hv, z⟩ := z
  have hkv : ∀ p ∈ b.kp, p.1 ∉ vs := fun p hp h => (hv p.1 h).1 (by rw [← hk]; exact List.mem_map_of_mem hp)
  have ww := w1.wipe hkv
  have hBD : b.B D = none := w1.bas.gone hD
  refine ⟨fun i m Hh => m = ds.length - i ∧ ∃ G2 ρ2 acc xs, Rel K b (L2.wipe σ vs) Hh G2 ρ2 ∧ Fm (L2.wipe σ vs) (wipR ρ1 vs) H1 G1 ρ2 Hh G2 ∧ Hh D = some (.lst xs) ∧ G2 D = none ∧ RpA K G2 xs acc ∧ (∀ v ∈ vs, ∀ s, ρ2[v]? = some s → s = .no) ∧
    compL ks g tt te vs (ds.drop i) acc ρ2 (fun acc ρ2 => QD (.own (.lst acc)) (unw vs ρ1 ρ2)), ⟨ds.length, (Nat.sub_zero _).symm, G1, wipR ρ1 vs, [], [], ww.new hD, ww.newF hD, upd_same, w1.sub.gone hD, .nil, fun v h s e => wipR_in ρ1 h e, z⟩, fun i m H2 q2 => ?_⟩
  obtain ⟨rfl, G2, ρ2, acc, xs, w2, m2, hD2, gD2, ra, nv, z2⟩ := q2
  have un2 : ∀ {ρ3 : Rho}, (∀ (j : Nat) (o : Own), ρ3[j]? = some (.own o) → ∃ o', (wipR ρ1 vs)[j]? = some (.own o')) → ∀ (j : Nat) (o : Own), ρ3[j]? = some (.own o) → (L2.wipe σ vs)[j]? ≠ some (some (.ref D)) := fun {ρ3} h j o e y => by
    obtain ⟨o', e'⟩ := h j o e
    exact ww.apart hD j o' e' y
  cases e : ds[i]? with
  | none =>
    have hl : ds.length ≤ i := List.getElem?_eq_none_iff.mp e
    rw [List.drop_eq_nil_of_le hl] at z2
    have x2 := m2.ex
    have w3 := Rel.unwipe w1 w2 x2 (fun v h => (hv v h).2) hkv
    have owv : ∀ (j : Nat) (o : Own), (unw vs ρ1 ρ2)[j]? = some (.own o) → j ∉ vs ∧ ρ2[j]? = some (.own o) := fun j o e => by
      by_cases h : j ∈ vs
      · rcases unw_in ρ1 ρ2 h e with z | z
        · cases z
        · exact absurd z ((hv j h).2 o)
      · rw [unw_out ρ1 ρ2 h] at e; exact ⟨h, e⟩
    have m3 : Fm σ ρ1 H1 G1 (unw vs ρ1 ρ2) H2 G2 := by
      refine ⟨x2, fun a o h n => m2.kp a o h fun j o' y => ?_, fun j o y => ?_, m2.dm⟩
      · have hj : j ∉ vs := fun hj => by have := wipR_in ρ1 hj y; cases this
        rw [wipR_out ρ1 hj] at y
        rw [wipe_at, if_neg hj]
        exact n j o' y
      · obtain ⟨hj, y⟩ := owv j o y
        obtain ⟨o', y⟩ := m2.ow j o y
        rw [wipR_out ρ1 hj] at y
        exact ⟨o', y⟩
    refine .inl ⟨(it i H2 G2 x2 w2.sub).2 hl, k (.ref D) H2 G2 (.own (.lst acc)) _ w3 (m1.trans m3) ⟨D, _, rfl, hD2, gD2, hBD, .lst ra, fun j o y => ?_, m1.dm D hD⟩ z2⟩
    obtain ⟨hj, y⟩ := owv j o y
    have := un2 m2.ow j o y
    rw [wipe_at, if_neg hj] at this
    exact this
  | some d =>
    rw [drop_at e] at z2
    obtain ⟨g1, g2⟩ := (it i H2 G2 m2.ex w2.sub).1 d e
    have hl : i < ds.length := (List.getElem?_eq_some_iff.mp e).1
    -- what a turn is to reach
    refine .inr ⟨g1, fun Hh => ∃ G2 ρ2 acc xs, Rel K b (L2.wipe σ vs) Hh G2 ρ2 ∧ Fm (L2.wipe σ vs) (wipR ρ1 vs) H1 G1 ρ2 Hh G2 ∧ Hh D = some (.lst xs) ∧ G2 D = none ∧ RpA K G2 xs acc ∧ (∀ v ∈ vs, ∀ s, ρ2[v]? = some s → s = .no) ∧
      compL ks g tt te vs (ds.drop (i + 1)) acc ρ2 (fun acc ρ2 => QD (.own (.lst acc)) (unw vs ρ1 ρ2)), fun H' h => ⟨ds.length - (i + 1), by omega, rfl, h⟩, fun x H' y => ?_⟩
    obtain ⟨zz, ez, o⟩ := g2 x H' y
    obtain ⟨G3, w3, m3, q3⟩ := o.go w2
    rw [ez] at q3
    refine ⟨G3, ρ2, d, _, w3, q3, z2, fun σ4 ρ4 w4 len4 out4 outr4 own4 z4 => ?_⟩
    have ew : L2.wipe σ4 vs = L2.wipe σ vs := by
      refine List.ext_getElem? fun j => ?_
      rw [wipe_at, wipe_at]
      by_cases hj : j ∈ vs
      · rw [if_pos hj, if_pos hj]
        have l1 : σ4.length = σ.length := by rw [len4, wipe_length]
        by_cases hl : j < σ.length
        · rw [List.getElem?_eq_getElem hl, List.getElem?_eq_getElem (by omega)]; rfl
        · rw [List.getElem?_eq_none (by omega), List.getElem?_eq_none (by omega)]
      · rw [if_neg hj, if_neg hj, out4 j fun h => hj (hi j h), wipe_at, if_neg hj]
    refine ⟨ew, G3, ρ4, _, w4, z4, fun c H5 G5 ρ5 w5 m5 z5 => ?_⟩
    -- the frame's memory over the block
    have conv : ∀ {H6 G6 : Hp} {ρ6 : Rho}, Fm σ4 ρ4 H' G3 ρ6 H6 G6 → Fm (L2.wipe σ vs) ρ2 H' G3 ρ6 H6 G6 := fun {H6 G6 ρ6} m => by
      refine ⟨m.ex, fun a o h n => m.kp a o h fun j o' y => ?_, fun j o y => ?_, m.dm⟩
      · have y2 := own4 j o' y
        have hj : j ∉ vs := fun hj => by have := nv j hj _ y2; cases this
        rw [out4 j fun h => hj (hi j h)]
        exact n j o' y2
      · obtain ⟨o', y⟩ := m.ow j o y
        exact ⟨o', own4 j o' y⟩
    have fin : ∀ {H6 G6 : Hp} {ρ6 : Rho} {acc' : List DL.D} {xs' : List V}, Rel K b σ4 H6 G6 ρ6 → Fm (L2.wipe σ vs) (wipR ρ1 vs) H1 G1 ρ6 H6 G6 → H6 D = some (.lst xs') → G6 D = none → RpA K G6 xs' acc' →
        compL ks g tt te vs (ds.drop (i + 1)) acc' (wipR ρ6 vs) (fun acc ρ2 => QD (.own (.lst acc)) (unw vs ρ1 ρ2)) → ∃ G2 ρ2 acc xs, Rel K b (L2.wipe σ vs) H6 G2 ρ2 ∧ Fm (L2.wipe σ vs) (wipR ρ1 vs) H1 G1 ρ2 H6 G2 ∧ H6 D = some (.lst xs) ∧ G2 D = none ∧ RpA K G2 xs acc ∧ (∀ v ∈ vs, ∀ s, ρ2[v]? = some s → s = .no) ∧
          compL ks g tt te vs (ds.drop (i + 1)) acc ρ2 (fun acc ρ2 => QD (.own (.lst acc)) (unw vs ρ1 ρ2)) := fun {H6 G6 ρ6 acc' xs'} w6 m6 h1 h2 h3 h4 => by
      have w7 := w6.wipe (vs := vs) hkv
      rw [ew] at w7
      refine ⟨G6, wipR ρ6 vs, acc', xs', w7, ⟨m6.ex, m6.kp, fun j o y => ?_, m6.dm⟩, h1, h2, h3, fun v h s e => wipR_in ρ6 h e, h4⟩
      have hj : j ∉ vs := fun hj => by have := wipR_in ρ6 hj y; cases this
      rw [wipR_out ρ6 hj] at y
      exact m6.ow j o y
    have keepD : ∀ {Ha Ga Hb Gb : Hp} {ρa ρb : Rho}, Fm (L2.wipe σ vs) ρa Ha Ga ρb Hb Gb → (∀ (j : Nat) (o : Own), ρa[j]? = some (.own o) → ∃ o', (wipR ρ1 vs)[j]? = some (.own o')) → Ha D = some (.lst xs) → Ga D = none → Hb D = some (.lst xs) ∧ Gb D = none := fun {Ha Ga Hb Gb ρa ρb} m h h1 h2 => by
      obtain ⟨y1, y2⟩ := m.kp D _ h1 (un2 h)
      exact ⟨y1, y2 h2⟩
    obtain ⟨hD3, gD3⟩ := keepD m3 m2.ow hD2 gD2
    have m23 := m2.trans m3
    have m5' := conv m5
    obtain ⟨hD5, gD5⟩ := keepD m5' m2.ow hD3 gD3
    cases c with
    | false =>
      exact iteF (fin w5 (m23.trans m5') hD5 gD5 (ra.up (m3.ex.trans m5.ex)) z5)
    | true =>
      refine iteT ⟨G5, ρ5, _, w5, z5, fun u H6 G6 r ρ6 w6 m6 q6 z6 => ?_⟩
      obtain ⟨p, e6, hz, z6⟩ := lk_get z6
      obtain ⟨dd, ρ7⟩ := p
      have m56 := m5.trans m6
      obtain ⟨G7, w7, m7, x7, r7, _⟩ := w6.frz hk m56 (q6.back m5.dm) e6
      have m7' := conv m7
      obtain ⟨hD7, gD7⟩ := keepD m7' m2.ow hD3 gD3
      have x37 := m3.ex.trans m7.ex
      refine ⟨xs, hD7, by rw [ra.len]; exact hz, ?_⟩
      -- D unowned in the last frame
      have un7 : ∀ (j : Nat) (o : Own), ρ7[j]? = some (.own o) → σ4[j]? ≠ some (some (.ref D)) := fun j o y => by
        obtain ⟨o4, y4⟩ := m7.ow j o y
        have y2 := own4 j o4 y4
        have hj : j ∉ vs := fun hj => by have := nv j hj _ y2; cases this
        rw [out4 j fun h => hj (hi j h)]
        exact un2 m2.ow j o4 y2
      have m8 : Fm (L2.wipe σ vs) (wipR ρ1 vs) H1 G1 ρ7 (upd H6 D (.lst (xs ++ [u]))) G7 := by
        have m9 := m23.trans m7'
        refine ⟨m9.ex, fun a o h n => ?_, m9.ow, fun a h => ?_⟩
        · obtain ⟨y1, y2⟩ := m9.kp a o h n
          exact ⟨by rw [upd_ne (ne_of_none h hD)]; exact y1, y2⟩
        · by_cases ha : a = D
          · subst ha; exact hD
          · rw [upd_ne ha] at h; exact m9.dm a h
      exact fin (w7.touch hD7 gD7 hBD un7) m8 upd_same gD7 (RpA.snoc r7 (ra.up x37)) z6
section
variable {X : Cx} {b : Bas} {ks is : List Nat}
/-- what a block of a comprehension is judged in -/
abbrev Blk (X : Cx) (scope : Scope) (P : Cx → Prop) : Prop := ∀ (s : Shared) (H : Hp) (C : Addr) (cl : List (Str × Addr)) (fp : List Addr), P (X.blk s H scope (compEnvC scope cl C X.env) fp)
theorem d_lc {elt tg iter : Expr} {ifs : List Expr} {scope : Scope} {own : List (Str × Nat)} {pos : Pos} {ti : TID} {g : GD} {tt : TTD} {te : TD} (hk : b.kp.map (·.1) = ks) (hi : ∀ i ∈ is, i ∈ own.map (·.2)) (hc : X.calm = true) (hN : X.N.Nodup) (h : PI X tg iter (liftI X.K b ti)) (ok : BlkOk X.N X.env.scope scope own)
    (hg : Blk X scope fun Y => PG Y tg (liftG X.K b is g)) (ht : Blk X scope fun Y => PTs Y ifs (liftT X.K b tt)) (he : Blk X scope fun Y => PE Y elt (lift X.K b te)) (hs : ∀ x, foldedSetIterable iter X.env x = pure x := by intro _; rfl) :
    PD X b (.ListComp elt [⟨tg, iter, ifs, 0⟩] scope pos) (wLc ks ti g tt te (own.map (·.2))) := pe_weak (pe_lc hc hN h ok hg ht he hs) fun _ _ _ q => lc_go hk hi q
theorem s_setLc {i : Nat} {y : Str} {py spos : Pos} {elt tg iter : Expr} {ifs : List Expr} {scope : Scope} {own : List (Str × Nat)} {pos : Pos} {ti : TID} {g : GD} {tt : TTD} {te : TD} (hk : b.kp.map (·.1) = ks) (hi : ∀ i ∈ is, i ∈ own.map (·.2)) (hc : X.calm = true) (hN : X.N.Nodup) (hy : X.N[i]? = some y) (hl : X.env.scope.names.lookup y = some .local)
    (hsw : swapsWith (.ListComp elt [⟨tg, iter, ifs, 0⟩] scope pos) (some (.Name y py)) spos.line X.env = pure true) (h : PI X tg iter (liftI X.K b ti)) (ok : BlkOk X.N X.env.scope scope own)
    (hg : Blk X scope fun Y => PG Y tg (liftG X.K b is g)) (ht : Blk X scope fun Y => PTs Y ifs (liftT X.K b tt)) (he : Blk X scope fun Y => PE Y elt (lift X.K b te)) (hs : ∀ x, foldedSetIterable iter X.env x = pure x := by intro _; rfl) :
    PSD X b (.Assign [.Name y py] (.ListComp elt [⟨tg, iter, ifs, 0⟩] scope pos) spos) (wAsg ks i (wLc ks ti g tt te (own.map (·.2)))) := ps_weak (ps_setLc hc hN hy hl hsw h ok hg ht he hs) fun _ _ _ q => lc_go hk hi (asg_go hk q)
theorem ts_nil {Y : Cx} : PTs Y [] (liftT Y.K b wYes) := ⟨fun pins s σ H Q I q => by
  obtain ⟨G, ρ, QD, w, q, k⟩ := q
  exact pts_nil.run pins s σ H Q I (k true H G ρ w (Fm.refl σ ρ H G) q)⟩
theorem ts_one {Y : Cx} {c : Expr} {tt : TTD} (h : PTD Y b c tt) : PTs Y [c] (liftT Y.K b tt) := pts_one h
end
end DL

set_option Elab.async false
set_option maxRecDepth 100000
set_option maxHeartbeats 4000000
/-! DL8: operations over data. -/
namespace DL
open PySem PySem.Spec PyProof.Rows L2

/-! ### whole numbers -/
def gInt (f : Int → Int → Option D) : D → D → Option Z
  | .int i, .int j => (f i j).map .d
  | _, _ => none
theorem op2_int {K : PySem.W.Frag} {r : R2} {f : Int → Int → Option D} (h : ∀ i j d v H (Q : VK), f i j = some d → vD d = some v → Q v H → r (.int i) (.int j) H Q) (hs : ∀ i j d, f i j = some d → ∃ v, vD d = some v) : Op2 K r (gInt f) := fun H G x y d e z Q _ rx ry hz k => by
  cases d <;> try cases hz
  cases e <;> try cases hz
  rename_i i j
  obtain rfl := rx.int
  obtain rfl := ry.int
  cases q : f i j with
  | none => rw [show gInt f (.int i) (.int j) = (f i j).map .d from rfl, q] at hz; cases hz
  | some d =>
    rw [show gInt f (.int i) (.int j) = (f i j).map .d from rfl, q] at hz
    cases hz
    obtain ⟨v, hv⟩ := hs i j d q
    exact h i j d v H Q q hv (k v H ⟨rfl, rp_vD hv⟩)
def fAdd (i j : Int) : Option D := some (.int (i + j))
def fSub (i j : Int) : Option D := some (.int (i - j))
def fMul (i j : Int) : Option D := if i.natAbs.log2 + j.natAbs.log2 < 1000000 then some (.int (i * j)) else none
def fDiv (i j : Int) : Option D := if 0 < j ∧ j.natAbs.log2 < 9000 then some (.int (i / j)) else none
def fMod (i j : Int) : Option D := if 0 < j then some (.int (i % j)) else none
def fPow (i j : Int) : Option D := if 0 ≤ j ∧ j ≤ 1000000 ∧ i.natAbs < 2 ^ 64 then some (.int (i ^ j.toNat)) else none
def fLt (i j : Int) : Option D := some (.bl (decide (i < j)))
def fLe (i j : Int) : Option D := some (.bl (decide (i ≤ j)))
def fGt (i j : Int) : Option D := some (.bl (decide (j < i)))
def fGe (i j : Int) : Option D := some (.bl (decide (j ≤ i)))
section
variable {K : PySem.W.Frag}
theorem o_sub : Op2 K (rI0 fun i j => .int (i - j)) (gInt fSub) := op2_int (fun i j d v H Q e hv q => by cases e; cases hv; exact ⟨i, j, rfl, rfl, q⟩) fun i j d e => by cases e; exact ⟨_, rfl⟩
theorem o_mul : Op2 K (rI CMulW fun i j => .int (i * j)) (gInt fMul) := op2_int (fun i j d v H Q e hv q => by
  unfold fMul at e
  split at e
  · rename_i h; cases e; cases hv; exact ⟨i, j, rfl, rfl, h, q⟩
  · cases e) fun i j d e => by
  unfold fMul at e
  split at e
  · cases e; exact ⟨_, rfl⟩
  · cases e
theorem o_div : Op2 K (rI CDivW fun i j => .int (i / j)) (gInt fDiv) := op2_int (fun i j d v H Q e hv q => by
  unfold fDiv at e
  split at e
  · rename_i h; cases e; cases hv; exact ⟨i, j, rfl, rfl, h, q⟩
  · cases e) fun i j d e => by
  unfold fDiv at e
  split at e
  · cases e; exact ⟨_, rfl⟩
  · cases e
theorem o_mod : Op2 K (rI (fun _ j => 0 < j) fun i j => .int (i % j)) (gInt fMod) := op2_int (fun i j d v H Q e hv q => by
  unfold fMod at e
  split at e
  · rename_i h; cases e; cases hv; exact ⟨i, j, rfl, rfl, h, q⟩
  · cases e) fun i j d e => by
  unfold fMod at e
  split at e
  · cases e; exact ⟨_, rfl⟩
  · cases e
theorem o_pow : Op2 K (rI CPow fun i j => .int (i ^ j.toNat)) (gInt fPow) := op2_int (fun i j d v H Q e hv q => by
  unfold fPow at e
  split at e
  · rename_i h; cases e; cases hv; exact ⟨i, j, rfl, rfl, h, q⟩
  · cases e) fun i j d e => by
  unfold fPow at e
  split at e
  · cases e; exact ⟨_, rfl⟩
  · cases e
theorem o_lt : Op2 K (rI0 fun i j => .bl (decide (i < j))) (gInt fLt) := op2_int (fun i j d v H Q e hv q => by cases e; cases hv; exact ⟨i, j, rfl, rfl, q⟩) fun i j d e => by cases e; exact ⟨_, rfl⟩
theorem o_le : Op2 K (rI0 fun i j => .bl (decide (i ≤ j))) (gInt fLe) := op2_int (fun i j d v H Q e hv q => by cases e; cases hv; exact ⟨i, j, rfl, rfl, q⟩) fun i j d e => by cases e; exact ⟨_, rfl⟩
theorem o_ge : Op2 K (rI0 fun i j => .bl (decide (j ≤ i))) (gInt fGe) := op2_int (fun i j d v H Q e hv q => by cases e; cases hv; exact ⟨i, j, rfl, rfl, q⟩) fun i j d e => by cases e; exact ⟨_, rfl⟩

end

/-! ### +: numbers, texts, lists, tuples -/
def gAdd : D → D → Option Z
  | .int i, .int j => some (.d (.int (i + j)))
  | .str x, .str y => if x.length + y.length ≤ sizeLine then some (.d (.str (x ++ y))) else none
  | .lst l, .lst m => if l.length + m.length ≤ sizeLine then some (.n (.lst (l ++ m))) else none
  | .tup l, .tup m => if l.length + m.length ≤ sizeLine then some (.t (l ++ m)) else none
  | _, _ => none
theorem RpA.app {K : PySem.W.Frag} {G : Hp} : ∀ {xs ys : List V} {ds es : List D}, RpA K G xs ds → RpA K G ys es → RpA K G (xs ++ ys) (ds ++ es)
  | _, _, _, _, .nil, q => q
  | _, _, _, _, .cons h r, q => .cons h (r.app q)
/-- t + u -/
def rCatP (K : PySem.W.Frag) : R2 := fun x y H Q => ∃ a b xs ys, x = .ref a ∧ y = .ref b ∧ SqT K H a xs ∧ SqT K H b ys ∧ xs.length + ys.length ≤ sizeLine ∧
  (xs = [] → Q (.ref b) H) ∧ (xs ≠ [] → ys = [] → Q (.ref a) H) ∧ (xs ≠ [] → ys ≠ [] → NewT H (xs ++ ys) Q)
theorem op_catP {X : Cx} : OpR X (binaryOp .Add) (rCatP X.K) := by
  intro pins s σ H x y v u Q I rx ry h
  obtain ⟨a, b, xs, ys, rfl, rfl, ha, hb, hz, q0, q1, q2⟩ := h
  cases rx
  cases ry
  obtain ⟨its, r1, p1, _⟩ := I.tuple ha
  obtain ⟨its2, r2, p2, _⟩ := I.tuple hb
  by_cases hx : xs = []
  · subst hx
    cases r1
    exact cat_tup0 p1 p2 ⟨.ref b, H, I, rfl, q0 rfl⟩
  · refine HT.cat_tup p1 p2 (fun z => hx (r1.nil_iff.mp z)) (fun z => ⟨.ref a, H, I, rfl, q1 hx (r2.nil_iff.mp z)⟩) (fun z => ?_) (by rw [← r1.length, ← r2.length]; exact hz)
    exact laidT I (r1.append r2) (by rw [List.length_append]; exact hz) (q2 hx fun w => z (r2.nil_iff.mpr w))
/-- + of two numbers, texts, lists, tuples -/
def rAdd3 (K : PySem.W.Frag) : R2 := fun x y H Q => (((rI0 fun i j => .int (i + j)) x y H Q ∨ (∃ i j, x = .str i ∧ y = .str j ∧ i.length + j.length ≤ sizeLine ∧ Q (.str (i ++ j)) H)) ∨ rCat x y H Q) ∨ rCatP K x y H Q
theorem op_add3 {X : Cx} : OpR X (binaryOp .Add) (rAdd3 X.K) := ((op_add.or op_add_str).or op_cat).or op_catP
theorem o_add3 {K : PySem.W.Frag} : Op2 K (rAdd3 K) gAdd := fun H G x y d e z Q xx rx ry hz k => by
  unfold gAdd at hz
  split at hz
  · cases hz
    obtain rfl := rx.int
    obtain rfl := ry.int
    exact .inl (.inl (.inl ⟨_, _, rfl, rfl, k _ H ⟨rfl, .int _⟩⟩))
  · split at hz
    · rename_i hl
      cases hz
      obtain rfl := rx.str
      obtain rfl := ry.str
      exact .inl (.inl (.inr ⟨_, _, rfl, rfl, hl, k _ H ⟨rfl, .str _⟩⟩))
    · cases hz
  · split at hz
    · rename_i hle
      cases hz
      obtain ⟨a, xs, rfl, h1, r1⟩ := rx.lst xx
      obtain ⟨c, ys, rfl, h2, r2⟩ := ry.lst xx
      exact .inl (.inr ⟨a, c, xs, ys, rfl, rfl, h1, h2, by rw [r1.len, r2.len]; exact hle, fun p hp => k _ _ ⟨p, _, rfl, hp, rfl, .lst (r1.app r2)⟩⟩)
    · cases hz
  · split at hz
    · rename_i l m hle
      cases hz
      obtain ⟨a, xs, rfl, h1, r1, p1⟩ := rx.tup xx
      obtain ⟨c, ys, rfl, h2, r2, p2⟩ := ry.tup xx
      refine .inr ⟨a, c, xs, ys, rfl, rfl, h1.1, h2.1, by rw [r1.len, r2.len]; exact hle, fun e => k _ _ (.inr ⟨rfl, ?_⟩), fun _ e => k _ _ (.inr ⟨rfl, ?_⟩), fun _ _ p o ho hp => k _ _ (.inl ⟨p, o, _, rfl, ho, hp, rfl, r1.app r2⟩)⟩
      · subst e
        cases r1
        exact p2
      · subst e
        cases r2
        rw [List.append_nil]
        exact p1
    · cases hz
  · cases hz

/-! ### items -/
def gIx : D → D → Option Z
  | .lst l, .int i => (atI l i).map .d
  | .tup l, .int i => (atI l i).map .d
  | .str x, .int i => if x.length ≤ sizeLine then (atI x.cps.toList i).map fun c => .d (.str ⟨#[c]⟩) else none
  | _, _ => none
section
variable {K : PySem.W.Frag}
theorem atI_rp {G : Hp} {xs : List V} {ds : List D} {i : Int} {d : D} (r : RpA K G xs ds) (h : atI ds i = some d) : ∃ v, atI xs i = some v ∧ Rp K G v d := by
  unfold atI at h ⊢
  rw [r.len]
  cases q : ixN ds.length i with
  | none => rw [q] at h; cases h
  | some j =>
    rw [q] at h
    exact r.at h
theorem o_ix : Op2 K (rIx K) gIx := fun H G x y d e z Q xx rx ry hz k => by
  unfold gIx at hz
  split at hz
  · rename_i l i
    obtain rfl := ry.int
    obtain ⟨a, xs, rfl, h1, r1⟩ := rx.lst xx
    cases q : atI l i with
    | none => rw [q] at hz; cases hz
    | some d =>
      rw [q] at hz
      cases hz
      obtain ⟨v, e1, e2⟩ := atI_rp r1 q
      exact .inl ⟨a, xs, i, v, rfl, rfl, SqL.of h1, e1, k v H ⟨rfl, e2⟩⟩
  · rename_i l i
    obtain rfl := ry.int
    obtain ⟨a, xs, rfl, ⟨h1, _⟩, r1, _⟩ := rx.tup xx
    cases q : atI l i with
    | none => rw [q] at hz; cases hz
    | some d =>
      rw [q] at hz
      cases hz
      obtain ⟨v, e1, e2⟩ := atI_rp r1 q
      exact .inr (.inl ⟨a, xs, i, v, rfl, rfl, h1, e1, k v H ⟨rfl, e2⟩⟩)
  · rename_i x i
    obtain rfl := ry.int
    obtain rfl := rx.str
    split at hz
    · rename_i hl
      cases q : atI x.cps.toList i with
      | none => rw [q] at hz; cases hz
      | some c =>
        rw [q] at hz
        cases hz
        exact .inr (.inr ⟨x, i, c, rfl, rfl, hl, q, k _ H ⟨rfl, .str _⟩⟩)
    · cases hz
  · cases hz
end

/-! ### slices -/
def wNoP : Rho → (Option Int → Rho → Prop) → Prop := fun ρ Q => Q none ρ
def wPart (ta : TD) : Rho → (Option Int → Rho → Prop) → Prop := fun ρ Q => ta ρ fun r ρ1 => lk (con ρ1 r) fun d => match d with
  | .int i => Q (some i) ρ1
  | _ => False
def liftP (K : PySem.W.Frag) (b : Bas) (td : Rho → (Option Int → Rho → Prop) → Prop) : TO := fun σ H Q => ∃ G ρ QD, Rel K b σ H G ρ ∧ td ρ QD ∧ ∀ o H' G' ρ', Rel K b σ H' G' ρ' → Fm σ ρ H G ρ' H' G' → QD o ρ' → Q o H'
def wSl (g : D → Option Int → Option Int → Option Z) (ta : TD) (tl th : Rho → (Option Int → Rho → Prop) → Prop) : TD := fun ρ Q => ta ρ fun r ρ1 => tl ρ1 fun lo ρ2 => th ρ2 fun hi ρ3 => lk (con ρ3 r) fun d => lk (g d lo hi) fun z => Q z.r ρ3
def SlD (K : PySem.W.Frag) (r : V → Option Int → Option Int → Hp → VK → Prop) (g : D → Option Int → Option Int → Option Z) : Prop := ∀ (H G : Hp) (x : V) (d : D) (lo hi : Option Int) (z : Z) (Q : VK), Ex G H → Rc K H G x d → g d lo hi = some z → (∀ v H', Out K H G v H' z → Q v H') → r x lo hi H Q
section
variable {X : Cx} {b : Bas} {e : Expr} {lo hi : Option Expr} {ta : TD} {tl th : Rho → (Option Int → Rho → Prop) → Prop} {pos p2 : Pos}
theorem po_weak {e : Option Expr} {t t' : TO} (h : PO X e t) (w : ∀ σ H Q, t' σ H Q → t σ H Q) : PO X e t' := ⟨fun pins s σ H Q I q => h.run pins s σ H Q I (w σ H Q q)⟩
theorem p_none : PO X none (liftP X.K b wNoP) := po_weak po_none fun σ H Q q => by
  obtain ⟨G, ρ, QD, w, q, k⟩ := q
  exact k none H G ρ w (Fm.refl σ ρ H G) q
theorem p_some (h : PD X b e ta) : PO X (some e) (liftP X.K b (wPart ta)) := po_weak (po_some h) fun σ H Q q => by
  obtain ⟨G, ρ, QD, w, q, k⟩ := q
  refine ⟨G, ρ, _, w, q, fun v H1 G1 r ρ1 w1 m1 q1 z => ?_⟩
  obtain ⟨d, e1, z⟩ := lk_get z
  split at z
  · rename_i i
    exact ⟨i, (q1.rc w1 e1).int, k _ H1 G1 ρ1 w1 m1 z⟩
  · exact z.elim
theorem d_sl {r : V → Option Int → Option Int → Hp → VK → Prop} {g : D → Option Int → Option Int → Option Z} (hr : SlR X r) (hg : SlD X.K r g) (he : PD X b e ta) (hl : PO X lo (liftP X.K b tl)) (hu : PO X hi (liftP X.K b th)) : PD X b (.Subscript e (.Slice lo hi none p2) pos) (wSl g ta tl th) :=
  pe_weak (pe_slice hr he hl hu) fun σ H Q q => by
    obtain ⟨G, ρ, QD, w, q, k⟩ := q
    refine ⟨G, ρ, _, w, q, fun v H1 G1 r ρ1 w1 m1 q1 z => ⟨G1, ρ1, _, w1, z, fun lo H2 G2 ρ2 w2 m2 z => ⟨G2, ρ2, _, w2, z, fun hi H3 G3 ρ3 w3 m3 z => ?_⟩⟩⟩
    obtain ⟨d, e1, z⟩ := lk_get z
    obtain ⟨y, e2, z⟩ := lk_get z
    refine hg H3 G3 v d lo hi y Q w3.sub ((q1.stay (m2.trans m3)).rc w3 e1) e2 fun v' H' o => ?_
    obtain ⟨G', w', m', q'⟩ := o.go w3
    exact k v' H' G' _ ρ3 w' (((m1.trans m2).trans m3).trans m') (q'.back ((m1.trans m2).trans m3).dm) z
end
def cutD (l : List D) (lo hi : Option Int) : List D := (l.drop (HT.sIx l.length 0 lo)).take (HT.sIx l.length l.length hi - HT.sIx l.length 0 lo)
def gSlL : D → Option Int → Option Int → Option Z
  | .lst l, lo, hi => some (.n (.lst (cutD l lo hi)))
  | .fzl l, lo, hi => some (.n (.lst (cutD l lo hi)))
  | _, _, _ => none
section
variable {K : PySem.W.Frag}
theorem RpA.take {G : Hp} : ∀ {xs : List V} {ds : List D} (n : Nat), RpA K G xs ds → RpA K G (xs.take n) (ds.take n)
  | _, _, 0, _ => .nil
  | _, _, _ + 1, .nil => .nil
  | _, _, n + 1, .cons h r => .cons h (r.take n)
theorem RpA.drop {G : Hp} : ∀ {xs : List V} {ds : List D} (n : Nat), RpA K G xs ds → RpA K G (xs.drop n) (ds.drop n)
  | _, _, 0, r => r
  | _, _, _ + 1, .nil => .nil
  | _, _, n + 1, .cons _ r => r.drop n
theorem cut_rp {G : Hp} {xs : List V} {ds : List D} (r : RpA K G xs ds) (lo hi : Option Int) : RpA K G (cutV xs lo hi) (cutD ds lo hi) := by
  unfold cutV cutD
  rw [r.len]
  exact (r.drop _).take _
theorem o_slL : SlD K (rSlL K) gSlL := fun H G x d lo hi z Q xx rx hz k => by
  unfold gSlL at hz
  split at hz
  · cases hz
    obtain ⟨a, xs, rfl, h1, r1⟩ := rx.lst xx
    exact ⟨a, xs, rfl, SqL.of h1, fun p hp => k _ _ ⟨p, _, rfl, hp, rfl, .lst (cut_rp r1 lo hi)⟩⟩
  · cases hz
    obtain ⟨a, xs, rfl, h1, r1⟩ := rx.fzl xx
    exact ⟨a, xs, rfl, h1, fun p hp => k _ _ ⟨p, _, rfl, hp, rfl, .lst (cut_rp r1 lo hi)⟩⟩
  · cases hz
end

/-! ### == and != of what needs no own comparison -/
-- data that the deep comparison is told of
mutual
def pyD : D → Option PyData
  | .non => some .none
  | .bl c => some (.bool c)
  | .int i => some (.int i)
  | .str x => some (.str x)
  | .lst l => (pyDs l).map .list
  | .tup l => (pyDs l).map .tuple
  | .dct _ => none
  | .ins _ _ => none
  | .fzl _ => none
  | .wt _ => none
  | .ty _ => none
  | .cls _ => none
  | .exc0 _ => none
  | .exc _ _ => none
def pyDs : List D → Option (List PyData)
  | [] => some []
  | d :: ds => (pyD d).bind fun p => (pyDs ds).map fun ps => p :: ps
end
section
variable {K : PySem.W.Frag} {H G : Hp}
mutual
theorem pyD_dp (e : Ex G H) : ∀ {v : V} {d : D} {p : PyData}, Rp K G v d → pyD d = some p → Dp K H v p
  | _, _, p, .non, h => by cases h; exact .non
  | _, _, p, .bl c, h => by cases h; exact .bl c
  | _, _, p, .int i, h => by cases h; exact .int i
  | _, _, p, .str x, h => by cases h; exact .str x
  | _, _, p, .dct _ _, h => by unfold pyD at h; cases h
  | _, _, p, .ins _ _, h => by unfold pyD at h; cases h
  | _, _, p, .fzl _ _, h => by unfold pyD at h; cases h
  | _, _, p, .lst (ds := ds) h1 h2, h => by
    unfold pyD at h
    cases q : pyDs ds with
    | none => rw [q] at h; cases h
    | some ps => rw [q] at h; cases h; exact .lst (SqL.of (e _ _ h1)) (pyDs_dp e h2 q)
  | _, _, p, .wt _ _, h => by unfold pyD at h; cases h
  | _, _, p, .ty _, h => by unfold pyD at h; cases h
  | _, _, p, .cls _, h => by unfold pyD at h; cases h
  | _, _, p, .exc0 _, h => by unfold pyD at h; cases h
  | _, _, p, .exc _ _ _, h => by unfold pyD at h; cases h
  | _, _, p, .tup (ds := ds) h1 h2, h => by
    unfold pyD at h
    cases q : pyDs ds with
    | none => rw [q] at h; cases h
    | some ps => rw [q] at h; cases h; exact .tup (e.sqt h1.1) (pyDs_dp e h2 q)
theorem pyDs_dp (e : Ex G H) : ∀ {v : List V} {d : List D} {p : List PyData}, RpA K G v d → pyDs d = some p → DpAll K H v p
  | _, _, p, .nil, h => by cases h; exact .nil
  | _, _, p, .cons (d := d) (ds := ds) h1 h2, h => by
    unfold pyDs at h
    cases q : pyD d with
    | none => rw [q] at h; cases h
    | some x =>
      rw [q] at h
      have h' : Option.map (fun ps => x :: ps) (pyDs ds) = some p := h
      cases q2 : pyDs ds with
      | none => rw [q2] at h'; cases h'
      | some ps => rw [q2] at h'; cases h'; exact .cons (pyD_dp e h1 q) (pyDs_dp e h2 q2)
end
theorem rc_dp {v : V} {d : D} {p : PyData} (e : Ex G H) (r : Rc K H G v d) (h : pyD d = some p) : Dp K H v p := by
  rcases r with r | ⟨a, hh, o, rfl, h1, r, rfl⟩
  · exact pyD_dp e r h
  · cases r with
    | lst r =>
      rename_i ds
      have h' : (pyDs ds).map PyData.list = some p := by unfold Own.d pyD at h; exact h
      cases q : pyDs ds with
      | none => rw [q] at h'; cases h'
      | some ps => rw [q] at h'; cases h'; exact .lst (SqL.of h1) (pyDs_dp e r q)
    | dct r => unfold Own.d pyD at h; cases h
    | ins r => unfold Own.d pyD at h; cases h
end
section
variable {K : PySem.W.Frag}
end

/-! ### built-in functions -/
def gAbs : List D → Option Z
  | [.int i] => some (.d (.int (if i < 0 then -i else i)))
  | _ => none
def gIntOf : List D → Option Z
  | [.int i] => some (.d (.int i))
  | [.bl c] => some (.d (.int (if c then 1 else 0)))
  | _ => none
def gLen : List D → Option Z
  | [.str x] => if x.length ≤ sizeLine then some (.d (.int x.length)) else none
  | [.lst l] => some (.d (.int l.length))
  | [.fzl l] => some (.d (.int l.length))
  | [.tup l] => some (.d (.int l.length))
  | _ => none
section
variable {K : PySem.W.Frag}
theorem pr1 {H G : Hp} {xs : List V} {d : D} (h : Paired (Rc K H G) xs [d]) : ∃ x, xs = [x] ∧ Rc K H G x d := by
  cases h with | cons h1 h2 => cases h2; exact ⟨_, rfl, h1⟩
theorem pr2 {H G : Hp} {xs : List V} {d e : D} (h : Paired (Rc K H G) xs [d, e]) : ∃ x y, xs = [x, y] ∧ Rc K H G x d ∧ Rc K H G y e := by
  cases h with | cons h1 h2 => cases h2 with | cons h2 h3 => cases h3; exact ⟨_, _, rfl, h1, h2⟩
theorem b_abs : FnB K (fun xs H Q => ∃ i, xs = [V.int i] ∧ Q (.int (if i < 0 then -i else i)) H) gAbs := fun H G xs ds z Q xx r hz k => by
  unfold gAbs at hz
  split at hz
  · cases hz
    obtain ⟨x, rfl, r'⟩ := pr1 r
    obtain rfl := r'.int
    exact ⟨_, rfl, k _ H ⟨rfl, .int _⟩⟩
  · cases hz
theorem b_int : FnB K (fun xs H Q => (∃ i, xs = [V.int i] ∧ Q (.int i) H) ∨ ∃ k, xs = [V.bl k] ∧ Q (.int (if k then 1 else 0)) H) gIntOf := fun H G xs ds z Q xx r hz k => by
  unfold gIntOf at hz
  split at hz
  · cases hz
    obtain ⟨x, rfl, r'⟩ := pr1 r
    obtain rfl := r'.int
    exact .inl ⟨_, rfl, k _ H ⟨rfl, .int _⟩⟩
  · cases hz
    obtain ⟨x, rfl, r'⟩ := pr1 r
    obtain rfl := r'.bl
    exact .inr ⟨_, rfl, k _ H ⟨rfl, .int _⟩⟩
  · cases hz
theorem b_len : FnB K (fun xs H Q => ∃ x n, xs = [x] ∧ LenV K x H n ∧ Q (.int n) H) gLen := fun H G xs ds z Q xx r hz k => by
  unfold gLen at hz
  split at hz
  · rename_i x
    split at hz
    · rename_i hl
      cases hz
      obtain ⟨v, rfl, r'⟩ := pr1 r
      obtain rfl := r'.str
      exact ⟨_, _, rfl, ⟨hl, rfl⟩, k _ H ⟨rfl, .int _⟩⟩
    · cases hz
  · cases hz
    obtain ⟨v, rfl, r'⟩ := pr1 r
    obtain ⟨a, xs, rfl, h1, r1⟩ := r'.lst xx
    exact ⟨_, _, rfl, .inl ⟨xs, SqL.of h1, r1.len.symm⟩, k _ H ⟨rfl, .int _⟩⟩
  · cases hz
    obtain ⟨v, rfl, r'⟩ := pr1 r
    obtain ⟨a, xs, rfl, h1, r1⟩ := r'.fzl xx
    exact ⟨_, _, rfl, .inl ⟨xs, h1, r1.len.symm⟩, k _ H ⟨rfl, .int _⟩⟩
  · cases hz
    obtain ⟨v, rfl, r'⟩ := pr1 r
    obtain ⟨a, xs, rfl, ⟨h1, _⟩, r1, _⟩ := r'.tup xx
    exact ⟨_, _, rfl, .inr ⟨xs, h1, r1.len.symm⟩, k _ H ⟨rfl, .int _⟩⟩
  · cases hz
end
/-! ### methods of a slot's list -/
def gAppend : List D → List D → Option (List D × D)
  | l, [d] => if l.length < sizeLine then some (l ++ [d], .non) else none
  | _, _ => none
section
variable {K : PySem.W.Frag}
theorem m_append : MutL K rAppend gAppend := fun H G a xs ys ls ds l' z Q xx ha hg rl rd hz k => by
  unfold gAppend at hz
  split at hz
  · rename_i l d
    split at hz
    · rename_i hl
      cases hz
      cases rd with
      | cons h1 h2 =>
        cases h2
        exact ⟨a, xs, _, rfl, rfl, ha, by rw [rl.len]; exact hl, k .non _ (RpA.snoc h1 rl) .non⟩
    · cases hz
  · cases hz
end
end DL

set_option Elab.async false
set_option maxRecDepth 100000
set_option maxHeartbeats 4000000
/-! DL9: how readings over data are run. -/
namespace DL
open PySem PySem.Spec PyProof.Rows L2
theorem lk_ite {α : Type} {c : Prop} [Decidable c] {a : α} {k : α → Prop} : lk (if c then some a else none) k = (c ∧ k a) := by
  by_cases h : c
  · rw [if_pos h, lk_some]; exact propext ⟨fun q => ⟨h, q⟩, fun q => q.2⟩
  · rw [if_neg h]; exact propext ⟨fun q => q.elim, fun q => h q.1⟩
theorem lk_map {α β : Type} {f : α → β} {x : Option α} {k : β → Prop} : lk (x.map f) k = lk x fun a => k (f a) := by cases x <;> rfl
theorem lk_bind {α β : Type} {f : α → Option β} {x : Option α} {k : β → Prop} : lk (x.bind f) k = lk x fun a => lk (f a) k := by cases x <;> rfl
theorem log2_of {a n : Nat} (h : a < 2 ^ n) (hn : 0 < n) : a.log2 < n := by
  by_cases h0 : a = 0
  · subst h0
    have : Nat.log2 0 = 0 := by decide
    omega
  · exact (Nat.log2_lt h0).mpr h
theorem mul_ok {i j : Int} (a b : Nat) (hi : i.natAbs < 2 ^ a) (hj : j.natAbs < 2 ^ b) (h1 : 0 < a) (h2 : 0 < b) (h : a + b < 1000000) : i.natAbs.log2 + j.natAbs.log2 < 1000000 := by
  have h3 := log2_of hi h1
  have h4 := log2_of hj h2
  omega
end DL

set_option Elab.async false
set_option maxRecDepth 100000
set_option maxHeartbeats 4000000
/-! DL10: tuples times numbers, slices, extend, list(), tuple(), isinstance, is. -/
namespace DL
open PySem PySem.Spec PyProof.Rows L2

/-! ### tuple * int, the other cases -/
theorem tuple_mul1 (l : Addr) (items : Array Value) (n : Nat) (dd : Option Addr) (sl : Array (Option Value)) (x : Int) (u : Tok) (c0 : (decide (x < -(2 ^ 63)) || decide (x ≥ 2 ^ 63)) = false) (c1 : (items.isEmpty || x == 1) = true) :
    Meets (Builtin.«tuple.__mul__» ⟨[.ref l, .int x u], []⟩) (fun _ R s => s.heap.get? l = some { cls := .type "tuple", dict := dd, data := .seq items n, slots := sl } ∧ R (.ok (.ret (Value.ref l))) s) :=
  .of_wp fun prog w A R s h => by
    obtain ⟨hp, g, d, tk, os⟩ := s
    obtain ⟨hl, h⟩ := h
    have f1 := AutoSeq1.idx_int
    wp_walk using wpAny_loadPart' hl
    repeat (first
      | (refine wpAny_ite_false (decide_eq_false (by rw [c0]; exact Bool.false_ne_true)) ?_; wp_walk using wpAny_loadPart' hl)
      | (refine wpAny_ite_true (decide_eq_true c1) ?_; wp_walk using wpAny_loadPart' hl))
    exact ⟨_, rfl, h⟩
theorem tuple_mul0 (l : Addr) (items : Array Value) (n : Nat) (dd : Option Addr) (sl : Array (Option Value)) (x : Int) (u : Tok) (c0 : (decide (x < -(2 ^ 63)) || decide (x ≥ 2 ^ 63)) = false) (c1 : (items.isEmpty || x == 1) = false) (c2 : (decide (x ≤ 0) || items.isEmpty) = true) :
    Meets (Builtin.«tuple.__mul__» ⟨[.ref l, .int x u], []⟩) (fun _ R s => s.heap.get? l = some { cls := .type "tuple", dict := dd, data := .seq items n, slots := sl } ∧ R (.ok (.ret (Value.ref s.heap.objs.size))) { s with heap := s.heap.push { cls := Value.type "tuple", data := Data.seq #[] }, toks := s.toks }) :=
  .of_wp fun prog w A R s h => by
    obtain ⟨hp, g, d, tk, os⟩ := s
    obtain ⟨hl, h⟩ := h
    have f1 := AutoSeq1.idx_int
    wp_walk using wpAny_loadPart' hl
    repeat (first
      | (refine wpAny_ite_false (decide_eq_false (by rw [c0]; exact Bool.false_ne_true)) ?_; wp_walk using wpAny_loadPart' hl)
      | (refine wpAny_ite_false (decide_eq_false (by rw [c1]; exact Bool.false_ne_true)) ?_; wp_walk using wpAny_loadPart' hl)
      | (refine wpAny_ite_true (decide_eq_true c2) ?_; wp_walk using wpAny_loadPart' hl))
    exact ⟨_, rfl, h⟩
def rRepT1 (K : PySem.W.Frag) : R2 := fun x y H Q => ∃ l k xs, x = .ref l ∧ y = .int k ∧ SqT K H l xs ∧ -(2 ^ 63) ≤ k ∧ k < 2 ^ 63 ∧ (xs = [] ∨ k = 1) ∧ Q (.ref l) H
def rRepT0 (K : PySem.W.Frag) : R2 := fun x y H Q => ∃ l k xs, x = .ref l ∧ y = .int k ∧ SqT K H l xs ∧ -(2 ^ 63) ≤ k ∧ k ≤ 0 ∧ xs ≠ [] ∧ NewT H [] Q
section
variable {X : Cx}
theorem op_repT1 : OpR X (binaryOp .Mult) (rRepT1 X.K) := by
  intro pins s σ H x y v u Q I rx ry h
  obtain ⟨l, k, xs, rfl, rfl, hT, h1, h2, hc', q⟩ := h
  cases rx
  obtain ⟨t, rfl⟩ := ry
  obtain ⟨its, r, ⟨⟨cls, dd, data, sl⟩, ho, hc, n, hd⟩, hs⟩ := I.tuple hT
  simp only at hc hd
  subst hc hd
  have c0 : (decide (k < -(2 ^ 63)) || decide (k ≥ 2 ^ 63)) = false := by
    rw [decide_eq_false (by omega), decide_eq_false (by omega)] <;> rfl
  have c1 : (its.toArray.isEmpty || k == 1) = true := by
    rcases hc' with rfl | rfl
    · cases r; rfl
    · simp
  exact wpAny_binaryOp_repeat_ref (T := "tuple") (U := "int") (by decide) ⟨_, ho, rfl⟩ (fun s' => typeIs_int s' k t) noFill_tuple_mul F.fills_int_mul F.slot_int_rmul repeat_tuple F.slot_int_index.lookup
    (call_meets F.slot_int_rmul (typeIs_int s k t) F.entry_int_rmul (F.args_int_rmul_2 _ _) (int_rmul_tuple k t l its.toArray n dd sl)
      ⟨ho, rfl, ⟨_, ho, rfl⟩, call_meets F.slot_tuple_mul ⟨_, ho, rfl⟩ F.entry_tuple_mul (F.args_tuple_mul_2 _ _) (tuple_mul1 l its.toArray n dd sl k t c0 c1) ⟨ho, .ref l, H, I, rfl, q⟩⟩)
theorem op_repT0 : OpR X (binaryOp .Mult) (rRepT0 X.K) := by
  intro pins s σ H x y v u Q I rx ry h
  obtain ⟨l, k, xs, rfl, rfl, hT, h1, h2, hne, q⟩ := h
  cases rx
  obtain ⟨t, rfl⟩ := ry
  obtain ⟨its, r, ⟨⟨cls, dd, data, sl⟩, ho, hc, n, hd⟩, hs⟩ := I.tuple hT
  simp only at hc hd
  subst hc hd
  have c0 : (decide (k < -(2 ^ 63)) || decide (k ≥ 2 ^ 63)) = false := by
    rw [decide_eq_false (by omega), decide_eq_false (by omega)] <;> rfl
  have hi : its.toArray.isEmpty = false := by
    cases r with
    | nil => exact absurd rfl hne
    | cons a b => rfl
  have c1 : (its.toArray.isEmpty || k == 1) = false := by
    rw [hi, Bool.false_or]
    exact beq_eq_false_iff_ne.mpr (by omega)
  have c2 : (decide (k ≤ 0) || its.toArray.isEmpty) = true := by
    rw [decide_eq_true h2]; rfl
  refine wpAny_binaryOp_repeat_ref (T := "tuple") (U := "int") (by decide) ⟨_, ho, rfl⟩ (fun s' => typeIs_int s' k t) noFill_tuple_mul F.fills_int_mul F.slot_int_rmul repeat_tuple F.slot_int_index.lookup
    (call_meets F.slot_int_rmul (typeIs_int s k t) F.entry_int_rmul (F.args_int_rmul_2 _ _) (int_rmul_tuple k t l its.toArray n dd sl)
      ⟨ho, rfl, ⟨_, ho, rfl⟩, call_meets F.slot_tuple_mul ⟨_, ho, rfl⟩ F.entry_tuple_mul (F.args_tuple_mul_2 _ _) (tuple_mul0 l its.toArray n dd sl k t c0 c1 c2) ⟨ho, ?_⟩⟩)
  exact laidT I .nil (Nat.zero_le _) q
def rRepP (K : PySem.W.Frag) : R2 := fun x y H Q => ∃ l k xs, x = .ref l ∧ y = .int k ∧ SqT K H l xs ∧ xs ≠ [] ∧ 2 ≤ k ∧ k ≤ 1000 ∧ xs.length ≤ 1000 ∧ NewT H (List.replicate k.toNat xs).flatten Q
theorem op_repP : OpR X (binaryOp .Mult) (rRepP X.K) := by
  intro pins s σ H x y v u Q I rx ry h
  obtain ⟨l, k, xs, rfl, rfl, hT, hne, h1, h2, hz, q⟩ := h
  cases rx
  obtain ⟨t, rfl⟩ := ry
  obtain ⟨its, r, ⟨⟨cls, dd, data, sl⟩, ho, hc, n, hd⟩, hs⟩ := I.tuple hT
  simp only at hc hd
  subst hc hd
  have hle : its.length = xs.length := r.length.symm
  have hn : its ≠ [] := fun e => hne (by
    rw [e] at hle
    exact List.eq_nil_of_length_eq_zero hle.symm)
  have hi : its.toArray.isEmpty = false := by
    cases its with
    | nil => exact absurd rfl hn
    | cons a b => rfl
  have hsz0 : its.toArray.size = xs.length := by rw [List.size_toArray, hle]
  have hm : ((its.toArray.size : Nat) : Int) * k ≤ 1000000 := by
    rw [hsz0]
    have a1 : ((xs.length : Nat) : Int) * k ≤ 1000 * k := Int.mul_le_mul_of_nonneg_right (by omega) (by omega)
    omega
  have flen : (List.replicate k.toNat xs).flatten.length ≤ sizeLine := by
    rw [PyProof.Rows.lm_len_rep_flat, sizeLine_eq]
    have a1 : k.toNat * xs.length ≤ 1000 * 1000 := Nat.mul_le_mul (by omega) hz
    omega
  have c0 : (decide (k < -(2 ^ 63)) || decide (k ≥ 2 ^ 63)) = false := by
    rw [decide_eq_false (by omega), decide_eq_false (by omega)] <;> rfl
  have c1 : (its.toArray.isEmpty || k == 1) = false := by
    rw [hi, Bool.false_or]
    exact beq_eq_false_iff_ne.mpr (by omega)
  have c2 : (decide (k ≤ 0) || its.toArray.isEmpty) = false := by
    rw [hi, Bool.or_false]
    exact decide_eq_false (by omega)
  have c4 : Builtin.Tuple.tupleTooMany (((its.toArray.size : Nat) : Int) * k) = false := by
    unfold Builtin.Tuple.tupleTooMany
    rw [sizeLine_eq]
    exact decide_eq_false (by omega)
  have rr := r.rep k.toNat
  refine wpAny_binaryOp_repeat_ref (T := "tuple") (U := "int") (by decide) ⟨_, ho, rfl⟩ (fun s' => typeIs_int s' k t) noFill_tuple_mul F.fills_int_mul F.slot_int_rmul repeat_tuple F.slot_int_index.lookup
    (call_meets F.slot_int_rmul (typeIs_int s k t) F.entry_int_rmul (F.args_int_rmul_2 _ _) (int_rmul_tuple k t l its.toArray n dd sl)
      ⟨ho, rfl, ⟨_, ho, rfl⟩, call_meets F.slot_tuple_mul ⟨_, ho, rfl⟩ F.entry_tuple_mul (F.args_tuple_mul_2 _ _) (tuple_mulW l its.toArray n dd sl k t c0 c1 c2 (by omega) c4 (by rw [size_rep, List.size_toArray, ← rr.length]; exact flen)) ⟨ho, ?_⟩⟩)
  rw [size_rep]
  exact laidT I rr flen q
end
theorem RpA.rep {K : PySem.W.Frag} {G : Hp} {xs : List V} {ds : List D} (r : RpA K G xs ds) : ∀ n : Nat, RpA K G (List.replicate n xs).flatten (List.replicate n ds).flatten
  | 0 => .nil
  | n + 1 => by
    rw [List.replicate_succ, List.replicate_succ, List.flatten_cons, List.flatten_cons]
    exact r.app (r.rep n)
def gMul : D → D → Option Z
  | .int i, .int j => (fMul i j).map .d
  | .lst l, .int k => if -(2 ^ 63) ≤ k ∧ k < 2 ^ 63 ∧ l.length * k.toNat ≤ sizeLine then some (.n (.lst (List.replicate k.toNat l).flatten)) else none
  | .tup l, .int k => if -(2 ^ 63) ≤ k ∧ k ≤ 1000 ∧ l.length ≤ 1000 then some (.t (List.replicate k.toNat l).flatten) else none
  | _, _ => none
def rMulA (K : PySem.W.Frag) : R2 := fun x y H Q => ((((rI CMulW fun i j => .int (i * j)) x y H Q ∨ rRep x y H Q) ∨ rRepP K x y H Q) ∨ rRepT1 K x y H Q) ∨ rRepT0 K x y H Q
theorem op_mulA {X : Cx} : OpR X (binaryOp .Mult) (rMulA X.K) := (((op_mulW.or op_rep).or op_repP).or op_repT1).or op_repT0
theorem o_mulA {K : PySem.W.Frag} : Op2 K (rMulA K) gMul := fun H G x y d e z Q xx rx ry hz k => by
  unfold gMul at hz
  split at hz
  · rename_i i j
    exact .inl (.inl (.inl (.inl (o_mul H G x y _ _ z Q xx rx ry hz k))))
  · split at hz
    · rename_i l i hle
      cases hz
      obtain ⟨a, xs, rfl, h1, r1⟩ := rx.lst xx
      obtain rfl := ry.int
      exact .inl (.inl (.inl (.inr ⟨a, i, xs, rfl, rfl, h1, hle.1, hle.2.1, by rw [r1.len]; exact hle.2.2, fun p hp => k _ _ ⟨p, _, rfl, hp, rfl, .lst (r1.rep _)⟩⟩)))
    · cases hz
  · split at hz
    · rename_i l i hle
      cases hz
      obtain ⟨a, xs, rfl, ⟨h1, _⟩, r1, p1⟩ := rx.tup xx
      obtain rfl := ry.int
      by_cases c1 : xs = []
      · refine .inl (.inr ⟨a, i, xs, rfl, rfl, h1, hle.1, by omega, .inl c1, k _ _ (.inr ⟨rfl, ?_⟩)⟩)
        subst c1
        cases r1
        have e0 : (List.replicate i.toNat ([] : List D)).flatten = [] := by simp
        rw [e0]; exact p1
      · by_cases c2 : i = 1
        · refine .inl (.inr ⟨a, i, xs, rfl, rfl, h1, hle.1, by omega, .inr c2, k _ _ (.inr ⟨rfl, ?_⟩)⟩)
          subst c2
          have e0 : (List.replicate (1 : Int).toNat l).flatten = l := by simp
          rw [e0]; exact p1
        · by_cases c3 : i ≤ 0
          · refine .inr ⟨a, i, xs, rfl, rfl, h1, hle.1, c3, c1, fun p o ho hp => k _ _ (.inl ⟨p, o, _, rfl, ho, hp, rfl, ?_⟩)⟩
            have e0 : i.toNat = 0 := by omega
            rw [e0]; exact .nil
          · exact .inl (.inl (.inr ⟨a, i, xs, rfl, rfl, h1, c1, by omega, hle.2.1, by rw [r1.len]; exact hle.2.2, fun p o ho hp => k _ _ (.inl ⟨p, o, _, rfl, ho, hp, rfl, r1.rep _⟩)⟩))
    · cases hz
  · cases hz

/-! ### slices of lists, tuples, texts -/
def gSl : D → Option Int → Option Int → Option Z
  | .lst l, lo, hi => some (.n (.lst (cutD l lo hi)))
  | .fzl l, lo, hi => some (.n (.lst (cutD l lo hi)))
  | .tup l, lo, hi => some (.t (cutD l lo hi))
  | .str x, lo, hi => if x.length ≤ sizeLine then some (.d (.str (cutS x lo hi))) else none
  | _, _, _ => none
/-- t[lo:hi]: the whole of it is t itself -/
def rSlP (K : PySem.W.Frag) : V → Option Int → Option Int → Hp → VK → Prop := fun x lo hi H Q => ∃ a xs, x = .ref a ∧ SqT K H a xs ∧
  (HT.sIx xs.length 0 lo = 0 ∧ HT.sIx xs.length xs.length hi = xs.length → Q (.ref a) H) ∧ (¬ (HT.sIx xs.length 0 lo = 0 ∧ HT.sIx xs.length xs.length hi = xs.length) → NewT H (cutV xs lo hi) Q)
theorem sl_tupP {X : Cx} : SlR X (rSlP X.K) := by
  intro pins s σ H x v vl vu lo hi sl Q I rx hs pl pu h
  obtain ⟨a, xs, rfl, hx, q1, q2⟩ := h
  cases rx
  obtain ⟨its, r, ht, hz⟩ := I.tuple hx
  have hlen : its.toArray.size = xs.length := by rw [List.size_toArray]; exact r.length.symm
  refine ⟨"tuple", _, PyProof.Rows.slot_tuple_getitem.lookup, ht.typeIs, ?_⟩
  by_cases hw : HT.sIx xs.length 0 lo = 0 ∧ HT.sIx xs.length xs.length hi = xs.length
  · exact getItem_tuple_whole ht hs pl pu (by rw [hlen]; exact hw) ⟨.ref a, H, I, rfl, q1 hw⟩
  · refine HT.getItem_tuple_cut ht hs pl pu (by rw [hlen]; exact hw) ?_ (by rw [hlen]; exact hz)
    rw [hlen]
    exact laidT I ((r.drop (HT.sIx xs.length 0 lo)).take (HT.sIx xs.length xs.length hi - HT.sIx xs.length 0 lo)) (Nat.le_trans (cutV_length xs lo hi) hz) (q2 hw)
def rSlAny (K : PySem.W.Frag) : V → Option Int → Option Int → Hp → VK → Prop := fun x lo hi H Q => (rSlL K x lo hi H Q ∨ rSlP K x lo hi H Q) ∨ rSlS x lo hi H Q
theorem sl_any {X : Cx} : SlR X (rSlAny X.K) := (sl_list.or sl_tupP).or sl_str
theorem cutD_whole {l : List D} {lo hi : Option Int} (h : HT.sIx l.length 0 lo = 0 ∧ HT.sIx l.length l.length hi = l.length) : cutD l lo hi = l := by
  unfold cutD
  rw [h.1, h.2, List.drop_zero, Nat.sub_zero, List.take_length]
theorem o_sl {K : PySem.W.Frag} : SlD K (rSlAny K) gSl := fun H G x d lo hi z Q xx rx hz k => by
  unfold gSl at hz
  split at hz
  · exact .inl (.inl (o_slL H G x _ _ _ z Q xx rx hz k))
  · exact .inl (.inl (o_slL H G x _ _ _ z Q xx rx hz k))
  · cases hz
    obtain ⟨a, xs, rfl, h1, r1, p1⟩ := rx.tup xx
    refine .inl (.inr ⟨a, xs, rfl, h1.1, fun e => k _ _ (.inr ⟨rfl, ?_⟩), fun _ p o ho hp => k _ _ (.inl ⟨p, o, _, rfl, ho, hp, rfl, cut_rp r1 _ _⟩)⟩)
    rw [r1.len] at e
    rw [cutD_whole e]; exact p1
  · split at hz
    · rename_i hl
      cases hz
      obtain rfl := rx.str
      exact .inr ⟨_, rfl, hl, k _ H ⟨rfl, .str _⟩⟩
    · cases hz
  · cases hz

/-! ### xs.extend(ys) -/
def gExtend : List D → List D → Option (List D × D)
  | l, [.tup m] => if l.length + m.length ≤ sizeLine then some (l ++ m, .non) else none
  | l, [.lst m] => if l.length + m.length ≤ sizeLine then some (l ++ m, .non) else none
  | _, _ => none
/-! ### list(x), tuple(x) -/
def gListOf : List D → Option Z
  | [.lst l] => some (.n (.lst l))
  | [.fzl l] => some (.n (.lst l))
  | [.tup l] => some (.n (.lst l))
  | _ => none
def rListOf (K : PySem.W.Frag) : List V → Hp → VK → Prop := fun xs H Q => ∃ p ys, xs = [.ref p] ∧ (SqL K H p ys ∨ SqT K H p ys) ∧ ∀ l, H l = none → Q (.ref l) (upd H l (.lst ys))
theorem b_listOf {K : PySem.W.Frag} : FnB K (rListOf K) gListOf := fun H G xs ds z Q xx r hz k => by
  unfold gListOf at hz
  split at hz
  · cases hz
    obtain ⟨v, rfl, r'⟩ := pr1 r
    obtain ⟨a, xs, rfl, h1, r1⟩ := r'.lst xx
    exact ⟨_, _, rfl, .inl (SqL.of h1), fun p hp => k _ _ ⟨p, _, rfl, hp, rfl, .lst r1⟩⟩
  · cases hz
    obtain ⟨v, rfl, r'⟩ := pr1 r
    obtain ⟨a, xs, rfl, h1, r1⟩ := r'.fzl xx
    exact ⟨_, _, rfl, .inl h1, fun p hp => k _ _ ⟨p, _, rfl, hp, rfl, .lst r1⟩⟩
  · cases hz
    obtain ⟨v, rfl, r'⟩ := pr1 r
    obtain ⟨a, xs, rfl, h1, r1, _⟩ := r'.tup xx
    exact ⟨_, _, rfl, .inr h1.1, fun p hp => k _ _ ⟨p, _, rfl, hp, rfl, .lst r1⟩⟩
  · cases hz
def gTupOf : List D → Option Z
  | [.lst l] => some (.t l)
  | [.fzl l] => some (.t l)
  | [.tup l] => some (.t l)
  | _ => none
end DL

set_option Elab.async false
set_option maxRecDepth 100000
set_option maxHeartbeats 4000000
/-! DL11: ==, in, is, isinstance, dict(pairs).get, repr. -/
namespace DL
open PySem PySem.Spec PyProof.Rows L2

/-! ### == and != -/
theorem fin_b {X : Cx} {pins : List (Addr × Obj)} {σ : L2.St} {H : Hp} {s : Shared} {Q : VK} {c : Bool} (I : Inv X pins σ H s) (q : Q (.bl c) H) : EP X pins σ Q (.bool c) s := ⟨.bl c, H, I, rfl, q⟩
/-- lists of other lengths, empty tuples: what the items are is not asked -/
def quick : D → D → Option Bool
  | .lst l, .lst m => if l.length = m.length then none else some false
  | .tup l, .tup m => if l = [] ∨ m = [] then some (l.length == m.length) else none
  | .str x, .str y => some (x == y)
  | _, _ => none
def rQuick (K : PySem.W.Frag) (neg : Bool) : R2 := fun x y H Q => (∃ i j, x = .str i ∧ y = .str j ∧ Q (.bl (neg != (i == j))) H) ∨ ∃ a b xs ys, x = .ref a ∧ y = .ref b ∧
  ((SqL K H a xs ∧ SqL K H b ys ∧ xs.length ≠ ys.length ∧ Q (.bl (neg != false)) H) ∨ (SqT K H a xs ∧ SqT K H b ys ∧ (xs = [] ∨ ys = []) ∧ Q (.bl (neg != (xs.length == ys.length))) H))
theorem min_zero {a b : Nat} (h : a = 0 ∨ b = 0) : min a b = 0 := by omega
section
variable {X : Cx}
theorem op_eqQ (hu : X.A.units < cLine) : OpR X (compareOp .Eq) (rQuick X.K false) := by
  intro pins s σ H x y v u Q I rx ry h
  rcases h with ⟨i, j, rfl, rfl, q⟩ | h
  · obtain ⟨t, rfl⟩ := rx
    obtain ⟨t', rfl⟩ := ry
    have e0 : ∀ c : Bool, (false != c) = c := fun c => by cases c <;> rfl
    rw [e0] at q
    exact SeqAt.RcAt.str_str i t j t' X.prog X.w X.xe _ (fin_b I q)
  obtain ⟨a, b, xs, ys, rfl, rfl, h⟩ := h
  cases rx
  cases ry
  rcases h with ⟨h1, h2, hn, q⟩ | ⟨h1, h2, hn, q⟩
  · obtain ⟨its, r1, p1, _⟩ := I.list h1
    obtain ⟨its2, r2, p2, _⟩ := I.list h2
    refine SeqAt.eq_list_lengthsAt p1.isList p2.isList ?_ hu (fin_b I q)
    have e1 := r1.length
    have e2 := r2.length
    rw [List.size_toArray, List.size_toArray]
    exact bne_iff_ne.mpr (by omega)
  · obtain ⟨its, r1, p1, _⟩ := I.tuple h1
    obtain ⟨its2, r2, p2, _⟩ := I.tuple h2
    have e1 := r1.length
    have e2 := r2.length
    have h0 : its.toArray.size = 0 ∨ its2.toArray.size = 0 := by
      rw [List.size_toArray, List.size_toArray]
      rcases hn with rfl | rfl
      · exact .inl e1.symm
      · exact .inr e2.symm
    refine SeqAt.eq_tupleAt (e := fun _ => true) p1 p2 hu (fun j j1 j2 => by omega) ?_
    have : ((List.range (min its.toArray.size its2.toArray.size)).all (fun _ => true) && its.toArray.size == its2.toArray.size) = (xs.length == ys.length) := by
      rw [min_zero h0, List.size_toArray, List.size_toArray, e1, e2]; rfl
    rw [this]
    have q' : Q (.bl (xs.length == ys.length)) H := by
      have e0 : ∀ c : Bool, (false != c) = c := fun c => by cases c <;> rfl
      rw [e0] at q; exact q
    exact fin_b I q'
theorem rc_ne_op {A : Around} {s : Shared} {a b : Value} {c : Bool} (h : SeqAt.RcNeAt A s a b c) {prog : Program} {w : World} {E : Value → Shared → Prop} {Q : Value → Shared → Prop} (q : Q (.bool c) s) : wpAny (model prog w) A (compareOp .NotEq a b) Q E s := h prog w E Q q
theorem op_neQ (hu : X.A.units < cLine) : OpR X (compareOp .NotEq) (rQuick X.K true) := by
  intro pins s σ H x y v u Q I rx ry h
  rcases h with ⟨i, j, rfl, rfl, q⟩ | h
  · obtain ⟨t, rfl⟩ := rx
    obtain ⟨t', rfl⟩ := ry
    have e0 : ∀ c : Bool, (true != c) = !c := fun c => by cases c <;> rfl
    rw [e0] at q
    exact rc_ne_op (SeqAt.RcNeAt.str_str i t j t') (fin_b I q)
  obtain ⟨a, b, xs, ys, rfl, rfl, h⟩ := h
  cases rx
  cases ry
  rcases h with ⟨h1, h2, hn, q⟩ | ⟨h1, h2, hn, q⟩
  · obtain ⟨its, r1, p1, _⟩ := I.list h1
    obtain ⟨its2, r2, p2, _⟩ := I.list h2
    refine rc_ne_op (SeqAt.RcNeAt.lists_lengths p1.isList p2.isList ?_ hu) (fin_b I q)
    have e1 := r1.length
    have e2 := r2.length
    rw [List.size_toArray, List.size_toArray]
    exact bne_iff_ne.mpr (by omega)
  · obtain ⟨its, r1, p1, _⟩ := I.tuple h1
    obtain ⟨its2, r2, p2, _⟩ := I.tuple h2
    have e1 := r1.length
    have e2 := r2.length
    have h0 : its.toArray.size = 0 ∨ its2.toArray.size = 0 := by
      rw [List.size_toArray, List.size_toArray]
      rcases hn with rfl | rfl
      · exact .inl e1.symm
      · exact .inr e2.symm
    refine rc_ne_op (SeqAt.RcNeAt.tuples (e := fun _ => true) p1 p2 hu (fun j j1 j2 => by omega)) ?_
    have : (!((List.range (min its.toArray.size its2.toArray.size)).all (fun _ => true) && its.toArray.size == its2.toArray.size)) = (true != (xs.length == ys.length)) := by
      rw [min_zero h0, List.size_toArray, List.size_toArray, e1, e2]
      show (!(true && _)) = _
      generalize (its.length == its2.length) = c
      cases c <;> rfl
    rw [this]
    exact fin_b I q
/-- data of any depth, the one of them flat enough -/
def rEqP (K : PySem.W.Frag) (neg : Bool) : R2 := fun x y H Q => ∃ d e, Dp K H x d ∧ Dp K H y e ∧ d.canLay0 = true ∧ e.canLay0 = true ∧ min d.depth e.depth ≤ 64 ∧ Q (.bl (neg != PyData.eqv d e)) H
theorem op_eqP (hu : X.A.units + 64 < cLine) : OpR X (compareOp .Eq) (rEqP X.K false) := by
  intro pins s σ H x y v u Q I rx ry h
  obtain ⟨d, e, hd, he, sd, se, hm, q⟩ := h
  obtain ⟨as, r1⟩ := Dp.reads I d x v hd rx
  obtain ⟨bs, r2⟩ := Dp.reads I e y u he ry
  have e0 : ∀ c : Bool, (false != c) = c := fun c => by cases c <;> rfl
  rw [e0] at q
  exact SeqAt.compareEq_reads r1 r2 sd se (by omega) (fin_b I q)
theorem op_neP (hu : X.A.units + 64 < cLine) : OpR X (compareOp .NotEq) (rEqP X.K true) := by
  intro pins s σ H x y v u Q I rx ry h
  obtain ⟨d, e, hd, he, sd, se, hm, q⟩ := h
  obtain ⟨as, r1⟩ := Dp.reads I d x v hd rx
  obtain ⟨bs, r2⟩ := Dp.reads I e y u he ry
  have e0 : ∀ c : Bool, (true != c) = !c := fun c => by cases c <;> rfl
  rw [e0] at q
  exact SeqAt.compareNe_reads r1 r2 sd se (by omega) (fin_b I q)
def rEqA (K : PySem.W.Frag) (neg : Bool) : R2 := fun x y H Q => rQuick K neg x y H Q ∨ rEqP K neg x y H Q
theorem op_eqA (hu : X.A.units + 64 < cLine) : OpR X (compareOp .Eq) (rEqA X.K false) := (op_eqQ (by omega)).or (op_eqP hu)
theorem op_neA (hu : X.A.units + 64 < cLine) : OpR X (compareOp .NotEq) (rEqA X.K true) := (op_neQ (by omega)).or (op_neP hu)
end
def deepEq (d e : D) : Option Bool := (pyD d).bind fun p => (pyD e).bind fun q => if p.canLay0 = true ∧ q.canLay0 = true ∧ min p.depth q.depth ≤ 64 then some (PyData.eqv p q) else none
def gEqB (d e : D) : Option Bool := match quick d e with
  | some c => some c
  | none => deepEq d e
def gEqA (neg : Bool) (d e : D) : Option Z := (gEqB d e).map fun c => .d (.bl (neg != c))
theorem deepEq_get {d e : D} {c : Bool} (h : deepEq d e = some c) : ∃ p q, pyD d = some p ∧ pyD e = some q ∧ p.canLay0 = true ∧ q.canLay0 = true ∧ min p.depth q.depth ≤ 64 ∧ c = PyData.eqv p q := by
  unfold deepEq at h
  cases e1 : pyD d with
  | none => rw [e1] at h; cases h
  | some p =>
    rw [e1] at h
    have h : ((pyD e).bind fun q => if p.canLay0 = true ∧ q.canLay0 = true ∧ min p.depth q.depth ≤ 64 then some (PyData.eqv p q) else none) = some c := h
    cases e2 : pyD e with
    | none => rw [e2] at h; cases h
    | some q =>
      rw [e2] at h
      have h : (if p.canLay0 = true ∧ q.canLay0 = true ∧ min p.depth q.depth ≤ 64 then some (PyData.eqv p q) else none) = some c := h
      split at h
      · rename_i hs
        cases h
        exact ⟨p, q, rfl, rfl, hs.1, hs.2.1, hs.2.2, rfl⟩
      · cases h
theorem o_eqA {K : PySem.W.Frag} {neg : Bool} : Op2 K (rEqA K neg) (gEqA neg) := fun H G x y d e z Q xx rx ry hz k => by
  unfold gEqA gEqB at hz
  cases hq : quick d e with
  | none =>
    rw [hq] at hz
    dsimp only at hz
    cases hd : deepEq d e with
    | none => rw [hd] at hz; cases hz
    | some c =>
      rw [hd] at hz
      cases hz
      obtain ⟨p, q, h1, h2, h3, h4, h5, rfl⟩ := deepEq_get hd
      exact .inr ⟨p, q, rc_dp xx rx h1, rc_dp xx ry h2, h3, h4, h5, k _ H ⟨rfl, .bl _⟩⟩
  | some c =>
    rw [hq] at hz
    cases hz
    unfold quick at hq
    split at hq
    · split at hq
      · cases hq
      · rename_i l m hlm
        cases hq
        obtain ⟨a, xs, rfl, h1, r1⟩ := rx.lst xx
        obtain ⟨b, ys, rfl, h2, r2⟩ := ry.lst xx
        exact .inl (.inr ⟨a, b, xs, ys, rfl, rfl, .inl ⟨SqL.of h1, SqL.of h2, by rw [r1.len, r2.len]; exact hlm, k _ H ⟨rfl, .bl _⟩⟩⟩)
    · split at hq
      · rename_i l m hlm
        cases hq
        obtain ⟨a, xs, rfl, ⟨h1, _⟩, r1, _⟩ := rx.tup xx
        obtain ⟨b, ys, rfl, ⟨h2, _⟩, r2, _⟩ := ry.tup xx
        refine .inl (.inr ⟨a, b, xs, ys, rfl, rfl, .inr ⟨h1, h2, ?_, ?_⟩⟩)
        · rcases hlm with rfl | rfl
          · cases r1; exact .inl rfl
          · cases r2; exact .inr rfl
        · rw [r1.len, r2.len]; exact k _ H ⟨rfl, .bl _⟩
      · cases hq
    · cases hq
      obtain rfl := rx.str
      obtain rfl := ry.str
      exact .inl (.inl ⟨_, _, rfl, rfl, k _ H ⟨rfl, .bl _⟩⟩)
    · cases hq

/-! ### in, not in: a list or tuple of data, a text in a text -/
def rInP (K : PySem.W.Frag) (neg : Bool) : R2 := fun x y H Q => ∃ a xs d es, y = .ref a ∧ (SqL K H a xs ∨ SqT K H a xs) ∧ Dp K H x d ∧ DpAll K H xs es ∧ d.canLay0 = true ∧ d.depth ≤ 64 ∧ PyData.canLayAll0 es = true ∧ Q (.bl (neg != es.any fun e => PyData.eqv e d)) H
/-- the item y, read, is as d -/
noncomputable def hitR (h : Heap) (d : PyData) (y : Value) : Bool := @decide (∃ p as, Reads h y p as ∧ PyData.eqv p d = true) (Classical.propDecidable _)
theorem hitR_eq {h : Heap} {d p : PyData} {y : Value} {as : List Addr} (r : Reads h y p as) : hitR h d y = PyData.eqv p d := by
  unfold hitR
  cases q : PyData.eqv p d with
  | true => exact @decide_eq_true _ (Classical.propDecidable _) ⟨p, as, r, q⟩
  | false =>
    refine @decide_eq_false _ (Classical.propDecidable _) fun z => ?_
    obtain ⟨p', as', r', q'⟩ := z
    have := (Reads.unique r p' as' r').1
    subst this
    rw [q] at q'; cases q'
theorem hit_any {h : Heap} {d : PyData} : ∀ {vs : List Value} {es : List PyData} {as : List Addr}, ReadsAll h vs es as → vs.any (hitR h d) = es.any fun e => PyData.eqv e d
  | _, _, _, .nil => rfl
  | _, _, _, .cons r rs => by rw [List.any_cons, List.any_cons, hitR_eq r, hit_any rs]
theorem hit_at {A : Around} {s : Shared} {d : PyData} {x : Value} {bs : List Addr} (rx : Reads s.heap x d bs) (hd : d.canLay0 = true) (hz : A.units + d.depth < cLine) : ∀ {vs : List Value} {es : List PyData} {as : List Addr}, ReadsAll s.heap vs es as → PyData.canLayAll0 es = true → ∀ y ∈ vs, SeqAt.EqAt A s y x (hitR s.heap d y)
  | _, _, _, .nil, _, y, h => by cases h
  | _, _, _, .cons (d := e) (ds := es) r rs, hc, y, h => by
    have hc' : (e.canLay0 && PyData.canLayAll0 es) = true := by unfold PyData.canLayAll0 at hc; exact hc
    rw [Bool.and_eq_true] at hc'
    rcases List.mem_cons.mp h with rfl | h
    · rw [hitR_eq r]
      exact SeqAt.eqAt_reads _ _ A s _ _ _ _ r rx hc'.1 hd (by omega)
    · exact hit_at rx hd hz rs hc'.2 y h
section
variable {X : Cx}
theorem op_inP (hu : X.A.units + 66 < cLine) : OpR X (compareOp .In) (rInP X.K false) := by
  intro pins s σ H x y v u Q I rx ry h
  obtain ⟨a, xs, d, es, rfl, hq, hd, he, c1, c2, c3, q⟩ := h
  cases ry
  obtain ⟨bs, r1⟩ := Dp.reads I d x v hd rx
  have e0 : ∀ c : Bool, (false != c) = c := fun c => by cases c <;> rfl
  rw [e0] at q
  have hz : X.A.in1.units + d.depth < cLine := by
    have : X.A.in1.units ≤ X.A.units + 1 := by first | exact Nat.le_refl _ | simp [Around.in1]
    omega
  rcases hq with hq | hq
  · obtain ⟨its, rv, pl, _⟩ := I.list hq
    obtain ⟨as, r2⟩ := Dp.readsAll I es _ its he rv
    refine SeqAt.in_listAt (hitR s.heap d) pl.isList (fun w hw => hit_at r1 c1 hz r2 c3 w (by simpa using hw)) ?_
    rw [List.any_toArray, hit_any r2]
    exact fin_b I q
  · obtain ⟨its, rv, pl, _⟩ := I.tuple hq
    obtain ⟨as, r2⟩ := Dp.readsAll I es _ its he rv
    refine SeqAt.in_tupleAt (hitR s.heap d) pl (fun w hw => hit_at r1 c1 hz r2 c3 w (by simpa using hw)) ?_
    rw [List.any_toArray, hit_any r2]
    exact fin_b I q
theorem op_notInP (hu : X.A.units + 66 < cLine) : OpR X (compareOp .NotIn) (rInP X.K true) := by
  intro pins s σ H x y v u Q I rx ry h
  obtain ⟨a, xs, d, es, rfl, hq, hd, he, c1, c2, c3, q⟩ := h
  cases ry
  obtain ⟨bs, r1⟩ := Dp.reads I d x v hd rx
  have e0 : ∀ c : Bool, (true != c) = !c := fun c => by cases c <;> rfl
  rw [e0] at q
  have hz : X.A.in1.units + d.depth < cLine := by
    have : X.A.in1.units ≤ X.A.units + 1 := by first | exact Nat.le_refl _ | simp [Around.in1]
    omega
  rcases hq with hq | hq
  · obtain ⟨its, rv, pl, _⟩ := I.list hq
    obtain ⟨as, r2⟩ := Dp.readsAll I es _ its he rv
    refine SeqAt.notIn_listAt (hitR s.heap d) pl.isList (fun w hw => hit_at r1 c1 hz r2 c3 w (by simpa using hw)) ?_
    rw [List.any_toArray, hit_any r2]
    exact fin_b I q
  · obtain ⟨its, rv, pl, _⟩ := I.tuple hq
    obtain ⟨as, r2⟩ := Dp.readsAll I es _ its he rv
    refine SeqAt.notIn_tupleAt (hitR s.heap d) pl (fun w hw => hit_at r1 c1 hz r2 c3 w (by simpa using hw)) ?_
    rw [List.any_toArray, hit_any r2]
    exact fin_b I q
end
def seqD : D → Option (List D)
  | .lst l => some l
  | .tup l => some l
  | _ => none
def inB (d y : D) : Option Bool := (seqD y).bind fun l => (pyD d).bind fun p => (pyDs l).bind fun es => if p.canLay0 = true ∧ p.depth ≤ 64 ∧ PyData.canLayAll0 es = true then some (es.any fun e => PyData.eqv e p) else none
def gIn (neg : Bool) (d y : D) : Option Z := (inB d y).map fun c => .d (.bl (neg != c))
theorem inB_get {d y : D} {c : Bool} (h : inB d y = some c) : ∃ l p es, seqD y = some l ∧ pyD d = some p ∧ pyDs l = some es ∧ p.canLay0 = true ∧ p.depth ≤ 64 ∧ PyData.canLayAll0 es = true ∧ c = es.any fun e => PyData.eqv e p := by
  unfold inB at h
  cases e0 : seqD y with
  | none => rw [e0] at h; cases h
  | some l =>
    rw [e0] at h
    have h : ((pyD d).bind fun p => (pyDs l).bind fun es => if p.canLay0 = true ∧ p.depth ≤ 64 ∧ PyData.canLayAll0 es = true then some (es.any fun e => PyData.eqv e p) else none) = some c := h
    cases e1 : pyD d with
    | none => rw [e1] at h; cases h
    | some p =>
      rw [e1] at h
      have h : ((pyDs l).bind fun es => if p.canLay0 = true ∧ p.depth ≤ 64 ∧ PyData.canLayAll0 es = true then some (es.any fun e => PyData.eqv e p) else none) = some c := h
      cases e2 : pyDs l with
      | none => rw [e2] at h; cases h
      | some es =>
        rw [e2] at h
        have h : (if p.canLay0 = true ∧ p.depth ≤ 64 ∧ PyData.canLayAll0 es = true then some (es.any fun e => PyData.eqv e p) else none) = some c := h
        split at h
        · rename_i hs
          cases h
          exact ⟨l, p, es, rfl, rfl, e2, hs.1, hs.2.1, hs.2.2, rfl⟩
        · cases h
theorem o_in {K : PySem.W.Frag} {neg : Bool} : Op2 K (rInP K neg) (gIn neg) := fun H G x y d e z Q xx rx ry hz k => by
  unfold gIn at hz
  cases hd : inB d e with
  | none => rw [hd] at hz; cases hz
  | some c =>
    rw [hd] at hz
    cases hz
    obtain ⟨l, p, es, h0, h1, h2, h3, h4, h5, rfl⟩ := inB_get hd
    cases e <;> cases h0
    · obtain ⟨a, xs, rfl, q1, r1⟩ := ry.lst xx
      exact ⟨a, xs, p, es, rfl, .inl (SqL.of q1), rc_dp xx rx h1, pyDs_dp xx r1 h2, h3, h4, h5, k _ H ⟨rfl, .bl _⟩⟩
    · obtain ⟨a, xs, rfl, q1, r1, _⟩ := ry.tup xx
      exact ⟨a, xs, p, es, rfl, .inr q1.1, rc_dp xx rx h1, pyDs_dp xx r1 h2, h3, h4, h5, k _ H ⟨rfl, .bl _⟩⟩

/-! ### is, is not -/
def nonD : D → Bool
  | .non => true
  | _ => false
def isB (d e : D) : Option Bool := match e with
  | .non => some (nonD d)
  | .bl c => match d with
    | .bl a => some (decide (a = c))
    | _ => none
  | _ => none
def gIs (neg : Bool) (d e : D) : Option Z := (isB d e).map fun c => .d (.bl (neg != c))
def rIsA (neg : Bool) : R2 := fun x y H Q => (y = .non ∧ Q (.bl (neg != decide (x = .non))) H) ∨ ∃ a b : Bool, x = .bl a ∧ y = .bl b ∧ Q (.bl (neg != decide (a = b))) H
section
variable {X : Cx}
theorem op_notA : OpR X (compareOp .IsNot) (rIsA true) := by
  intro pins s σ H x y v u Q I rx ry h
  have e0 : ∀ c : Bool, (true != c) = !c := fun c => by cases c <;> rfl
  rcases h with ⟨h, q⟩ | ⟨a, b, h1, h2, q⟩
  · rw [e0] at q; exact op_notN pins s σ H x y v u Q I rx ry ⟨h, q⟩
  · rw [e0] at q; exact op_notBl pins s σ H x y v u Q I rx ry ⟨a, b, h1, h2, q⟩
end
theorem rc_non {K : PySem.W.Frag} {H G : Hp} {x : V} {d : D} (r : Rc K H G x d) : decide (x = .non) = nonD d := by
  rcases r with r | ⟨a, h, o, rfl, h1, r, rfl⟩
  · cases r <;> rfl
  · cases o <;> rfl
theorem o_is {K : PySem.W.Frag} {neg : Bool} : Op2 K (rIsA neg) (gIs neg) := fun H G x y d e z Q xx rx ry hz k => by
  unfold gIs at hz
  cases hd : isB d e with
  | none => rw [hd] at hz; cases hz
  | some c =>
    rw [hd] at hz
    cases hz
    unfold isB at hd
    split at hd
    · cases hd
      have hy : y = .non := by
        rcases ry with ry | ⟨a, h, o, _, _, _, z⟩
        · cases ry; rfl
        · cases o <;> cases z
      refine .inl ⟨hy, ?_⟩
      rw [rc_non rx]
      exact k _ H ⟨rfl, .bl _⟩
    · split at hd
      · cases hd
        obtain rfl := rx.bl
        obtain rfl := ry.bl
        exact .inr ⟨_, _, rfl, rfl, k _ H ⟨rfl, .bl _⟩⟩
      · cases hd
    · cases hd

/-! ### isinstance(x, T), T a built-in type, data -/
def tyD : D → Option String
  | .non => some "NoneType"
  | .bl _ => some "bool"
  | .int _ => some "int"
  | .str _ => some "str"
  | .lst _ => some "list"
  | .fzl _ => some "list"
  | .tup _ => some "tuple"
  | .dct _ => some "dict"
  | _ => none
/-- of an instance's class nothing is told here -/
def isiB (a b : String) : Option Bool := if a ∈ ["NoneType", "bool", "int", "str", "list", "tuple", "dict"] ∧ b ∈ ["bool", "int", "str", "list", "tuple", "dict"] then some (a == b || (a == "bool" && b == "int")) else none
theorem isiB_all : (["NoneType", "bool", "int", "str", "list", "tuple", "dict"].all fun a => ["bool", "int", "str", "list", "tuple", "dict"].all fun b => kitB a b == some (a == b || (a == "bool" && b == "int"))) = true := by decide +kernel
theorem isiB_ok {a b : String} {c : Bool} (h : isiB a b = some c) : kitB a b = some c := by
  unfold isiB at h
  split at h
  · rename_i hs
    cases h
    have h1 := List.all_eq_true.mp isiB_all a hs.1
    have h2 := List.all_eq_true.mp h1 b hs.2
    exact eq_of_beq h2
  · cases h
theorem tyx {K : PySem.W.Frag} {H G : Hp} {x : V} {d : D} {t : String} (xx : Ex G H) (r : Rc K H G x d) (h : tyD d = some t) : TyX K H x (.type t) := by
  rcases r with r | ⟨a, hh, o, rfl, h1, r, rfl⟩
  · cases r with
    | non => cases h; exact .base .non
    | bl c => cases h; exact .base (.bl c)
    | int i => cases h; exact .base (.int i)
    | str x => cases h; exact .base (.str x)
    | lst q r => cases h; exact .base (.lst (xx _ _ q))
    | fzl q r =>
      cases h
      rcases xx.sql q with (q | ⟨o, q⟩) | ⟨o, its, n, q, hc, _⟩
      · exact .base (.lst q)
      · exact .base (.frz q)
      · exact .kList q hc
    | tup q r =>
      cases h
      rcases xx.sqt q.1 with (q | ⟨o, q⟩) | ⟨o, its, n, q, hc, _⟩
      · exact .base (.tup q)
      · exact .fTuple q
      · exact .kTuple q hc
    | dct q r => cases h; exact .base (.dK (xx _ _ q))
    | ins q r => cases h
    | wt q r => cases h
    | ty n => cases h
    | cls C => cases h
    | exc0 q => cases h
    | exc q q2 r => cases h
  · cases r with
    | lst r => cases h; exact .base (.lst h1)
    | dct r => cases h; exact .base (.dK h1)
    | ins r => cases h
def gIsi : List D → Option Z
  | [d, .ty T] => ((tyD d).bind fun t => isiB t T).map fun c => .d (.bl c)
  | _ => none
theorem Rc.ty {K : PySem.W.Frag} {H G : Hp} {x : V} {n : String} (r : Rc K H G x (.ty n)) : x = .ty n := by
  rcases r with r | ⟨a, h, o, _, _, _, z⟩
  · cases r; rfl
  · cases o <;> cases z
theorem b_isi {K : PySem.W.Frag} : FnB K (rIsi K) gIsi := fun H G xs ds z Q xx r hz k => by
  unfold gIsi at hz
  split at hz
  · rename_i d T
    cases h1 : tyD d with
    | none => rw [h1] at hz; cases hz
    | some t =>
      rw [h1] at hz
      have hz : (isiB t T).map (fun c => Z.d (.bl c)) = some z := hz
      cases h2 : isiB t T with
      | none => rw [h2] at hz; cases hz
      | some c =>
        rw [h2] at hz
        cases hz
        obtain ⟨x, y, rfl, r1, r2⟩ := pr2 r
        obtain rfl := r2.ty
        exact ⟨x, .ty T, .type t, .type T, c, rfl, .ty T, tyx xx r1 h1, kit_ty (isiB_ok h2), k _ H ⟨rfl, .bl _⟩⟩
  · cases hz
end DL

set_option Elab.async false
set_option maxRecDepth 100000
set_option maxHeartbeats 4000000
/-! DL12: dict(pairs), get, repr, what is walked of any kind, calls by promises. -/
namespace DL
open PySem PySem.Spec PyProof.Rows L2

/-! ### tables -/
def putKD (kvs : List (Key × D)) (k : Key) (v : D) : List (Key × D) := if (kvs.any fun kv => decide (kv.1 = k)) = true then kvs.map (fun kv => if kv.1 = k then (kv.1, v) else kv) else kvs ++ [(k, v)]
def mergeKD (kvs more : List (Key × D)) : List (Key × D) := more.foldl (fun acc kv => putKD acc kv.1 kv.2) kvs
def lookKD (kvs : List (Key × D)) (k : Key) : Option D := (kvs.find? fun kv => decide (kv.1 = k)).map (·.2)
def keyD : D → Option Key
  | .int i => some (.inl i)
  | .str x => some (.inr x)
  | _ => none
section
variable {K : PySem.W.Frag} {G : Hp}
theorem RpK.any (k : Key) : ∀ {ks : List (Key × V)} {ds : List (Key × D)}, RpK K G ks ds → (ks.any fun kv => decide (kv.1 = k)) = ds.any fun kv => decide (kv.1 = k)
  | _, _, .nil => rfl
  | _, _, .cons h r => by rw [List.any_cons, List.any_cons, RpK.any k r]
theorem RpK.repl {v : V} {d : D} (k : Key) (q : Rp K G v d) : ∀ {ks : List (Key × V)} {ds : List (Key × D)}, RpK K G ks ds → RpK K G (ks.map fun kv => if kv.1 = k then (kv.1, v) else kv) (ds.map fun kv => if kv.1 = k then (kv.1, d) else kv)
  | _, _, .nil => .nil
  | _, _, .cons (k := j) h r => by
    rw [List.map_cons, List.map_cons]
    by_cases e : j = k
    · rw [if_pos e, if_pos e]; exact .cons q (RpK.repl k q r)
    · rw [if_neg e, if_neg e]; exact .cons h (RpK.repl k q r)
theorem RpK.snoc {v : V} {d : D} (k : Key) (q : Rp K G v d) : ∀ {ks : List (Key × V)} {ds : List (Key × D)}, RpK K G ks ds → RpK K G (ks ++ [(k, v)]) (ds ++ [(k, d)])
  | _, _, .nil => .cons q .nil
  | _, _, .cons h r => .cons h (RpK.snoc k q r)
theorem RpK.put {v : V} {d : D} (k : Key) (q : Rp K G v d) {ks : List (Key × V)} {ds : List (Key × D)} (r : RpK K G ks ds) : RpK K G (putK ks k v) (putKD ds k d) := by
  unfold putK putKD
  rw [RpK.any k r]
  split
  · exact RpK.repl k q r
  · exact RpK.snoc k q r
theorem RpK.look (k : Key) : ∀ {ks : List (Key × V)} {ds : List (Key × D)}, RpK K G ks ds → (valV ks k = none ∧ lookKD ds k = none) ∨ ∃ v d, valV ks k = some v ∧ lookKD ds k = some d ∧ Rp K G v d
  | _, _, .nil => .inl ⟨rfl, rfl⟩
  | _, _, .cons (k := j) (v := v) (d := d) h r => by
    unfold valV lookKD
    rw [List.find?_cons, List.find?_cons]
    by_cases e : j = k
    · rw [decide_eq_true (show (j, v).1 = k from e)]
      exact .inr ⟨v, d, rfl, rfl, h⟩
    · rw [decide_eq_false (show ¬ (j, v).1 = k from e)]
      exact RpK.look k r
end
/-- a tuple's or list's items, pairs of a key and something -/
def pairsD : List D → Option (List (Key × D))
  | [] => some []
  | .tup [k, v] :: r => (keyD k).bind fun k => (pairsD r).map fun ps => (k, v) :: ps
  | _ :: _ => none
theorem Paired.up {α β : Type} {F F' : α → β → Prop} (f : ∀ a b, F a b → F' a b) : ∀ {l : List α} {m : List β}, Paired F l m → Paired F' l m
  | _, _, .nil => .nil
  | _, _, .cons h t => .cons (f _ _ h) (Paired.up f t)
section
variable {X : Cx} {pins : List (Addr × Obj)} {σ : L2.St} {H : Hp} {s : Shared}
end
def gDictOf : List D → Option Z
  | [.tup l] => (pairsD l).map fun ps => .n (.dct (mergeKD [] ps))
  | _ => none
/-! ### d.get(k) -/
def dctD : D → Option (List (Key × D))
  | .dct l => some l
  | _ => none
def wDGet1 (ta tb : TD) : TD := fun ρ Q => ta ρ fun r ρ1 => lk ((con ρ1 r).bind dctD) fun _ => tb ρ1 fun r2 ρ2 => lk ((con ρ2 r).bind dctD) fun l => lk ((con ρ2 r2).bind keyD) fun k => Q (.dat ((lookKD l k).getD .non)) ρ2
theorem Rc.dct {K : PySem.W.Frag} {H G : Hp} {v : V} {d : D} {l : List (Key × D)} (e : Ex G H) (r : Rc K H G v d) (h : dctD d = some l) : ∃ a ks, v = .ref a ∧ H a = some (.dK ks) ∧ RpK K G ks l := by
  cases d <;> cases h
  rcases r with r | ⟨a, h, o, rfl, h1, r, z⟩
  · cases r with | dct h1 h2 => exact ⟨_, _, rfl, e _ _ h1, h2⟩
  · cases r with
    | lst r => cases z
    | ins r => cases z
    | dct r => cases z; exact ⟨a, _, rfl, h1, r⟩
/-! ### repr -/
mutual
inductive Dr (K : PySem.W.Frag) (H : Hp) : V → PyData → Prop
  | non : Dr K H .non .none
  | bl (b : Bool) : Dr K H (.bl b) (.bool b)
  | int (i : Int) : Dr K H (.int i) (.int i)
  | str (x : Str) : Dr K H (.str x) (.str x)
  | lst {a : Addr} {xs : List V} {ds : List PyData} : SqL K H a xs → DrAll K H xs ds → Dr K H (.ref a) (.list ds)
  | tup {a : Addr} {xs : List V} {ds : List PyData} : SqT K H a xs → DrAll K H xs ds → Dr K H (.ref a) (.tuple ds)
  | dct0 {a : Addr} : H a = some (.dK []) → Dr K H (.ref a) (.dict [])
inductive DrAll (K : PySem.W.Frag) (H : Hp) : List V → List PyData → Prop
  | nil : DrAll K H [] []
  | cons {v : V} {vs : List V} {d : PyData} {ds : List PyData} : Dr K H v d → DrAll K H vs ds → DrAll K H (v :: vs) (d :: ds)
end
/-- the table of modules is a dict -/
def ModsOk (base : Heap) : Prop := ∃ mm, base.Ns sysModules mm
section
variable {X : Cx} {pins : List (Addr × Obj)} {σ : L2.St} {H : Hp} {s : Shared}
mutual
theorem Dr.reads (I : Inv X pins σ H s) (hM : ModsOk X.base) : ∀ {v : V} {d : PyData} {u : Value}, Dr X.K H v d → RelV v u → ∃ as, Reads s.heap u d as ∧ sysModules ∉ as
  | _, _, _, .non, r => by cases r; exact ⟨_, Reads.none, by simp⟩
  | _, _, _, .bl c, r => by cases r; exact ⟨_, Reads.bool c, by simp⟩
  | _, _, _, .int i, r => by obtain ⟨t, rfl⟩ := r; exact ⟨_, Reads.int i t, by simp⟩
  | _, _, _, .str x, r => by obtain ⟨t, rfl⟩ := r; exact ⟨_, Reads.str x t, by simp⟩
  | _, _, _, .lst hs ha, r => by
    cases r
    obtain ⟨its, rv, ⟨o, n, ho, hc, _, hd⟩, _⟩ := I.list hs
    obtain ⟨as, hr, hn⟩ := Dr.readsAll I hM ha rv
    refine ⟨_, Reads.list ho hc hd hr, fun z => ?_⟩
    rcases List.mem_cons.mp z with e | z
    · obtain ⟨mm, o', es, ep, k1, k2, _⟩ := hM
      have := I.bk _ _ k1
      rw [e, ho] at this
      cases this
      rw [hd] at k2
      cases k2
    · exact hn z
  | _, _, _, .tup hs ha, r => by
    cases r
    obtain ⟨its, rv, ⟨o, ho, hc, n, hd⟩, _⟩ := I.tuple hs
    obtain ⟨as, hr, hn⟩ := Dr.readsAll I hM ha rv
    exact ⟨_, Reads.tuple ho hc hd hr, hn⟩
  | _, _, _, .dct0 hs, r => by
    cases r
    obtain ⟨_, hne, vs, rel, o, es, ep, ho, hex, hdat, _, hp, _⟩ := (show ObjOk X.prog X.w H s.heap _ (.dK []) from I.hok _ _ hs)
    cases rel
    have e0 : es.toList = [] := by
      generalize es.toList = l at hp
      cases hp; rfl
    refine ⟨_, Reads.dict ho hex.1 hdat (kvs := []) (by rw [e0]; exact .nil) (by rw [e0]; exact .nil), fun z => ?_⟩
    rcases List.mem_append.mp z with z | z
    · rcases List.mem_cons.mp z with e | z
      · rw [← e] at hne
        exact absurd hne (by simp)
      · cases z
    · cases z
theorem Dr.readsAll (I : Inv X pins σ H s) (hM : ModsOk X.base) : ∀ {vs : List V} {ds : List PyData} {us : List Value}, DrAll X.K H vs ds → Vals vs us → ∃ as, ReadsAll s.heap us ds as ∧ sysModules ∉ as
  | _, _, _, .nil, r => by cases r; exact ⟨_, .nil, by simp⟩
  | _, _, _, .cons h1 h2, r => by
    cases r with
    | cons r1 r2 =>
      obtain ⟨as, q1, n1⟩ := Dr.reads I hM h1 r1
      obtain ⟨bs, q2, n2⟩ := Dr.readsAll I hM h2 r2
      exact ⟨_, .cons q1 q2, fun z => (List.mem_append.mp z).elim n1 n2⟩
end
end
def rRepr (K : PySem.W.Frag) : List V → Hp → VK → Prop := fun xs H Q => ∃ x d, xs = [x] ∧ Dr K H x d ∧ d.showable = true ∧ d.depth ≤ 60 ∧ d.shown.length ≤ sizeLine ∧ Q (.str d.shown) H
theorem cr_repr {X : Cx} (hM : ModsOk X.base) (hg : X.A.guards = some []) (hu : X.A.units + 64 < cLine) : CallR X (.builtin "repr") (rRepr X.K) := by
  intro pins s σ H xs us Q I r h
  obtain ⟨x, d, rfl, hd, hs, hz, hl, q⟩ := h
  obtain ⟨u, rfl, rx⟩ := vals1 r
  cases hd with
  | non => cases rx; exact PySem.P.repr_of_none ⟨.str _, H, I.tok _, ⟨_, rfl⟩, q⟩
  | bl c => cases rx; exact PySem.P.repr_of_bool ⟨.str _, H, I.tok _, ⟨_, rfl⟩, by cases c <;> exact q⟩
  | int i =>
    obtain ⟨t, rfl⟩ := rx
    exact PySem.P.repr_of_int (of_decide_eq_true (by simpa [PyData.showable] using hs)) ⟨.str _, H, I.tok _, ⟨_, rfl⟩, q⟩
  | str x =>
    obtain ⟨t, rfl⟩ := rx
    exact PySem.P.repr_of_str ⟨.str _, H, I.tok _, ⟨_, rfl⟩, q⟩ hl
  | lst h1 h2 =>
    cases rx
    obtain ⟨as, r1, n1⟩ := Dr.reads I hM (.lst h1 h2) rfl
    exact repr_of_reads' r1 hs (fun _ => n1) hg (by omega) (fun _ _ e => e) (fun h' u tk kp => ⟨.str _, H, I.kept (t' := tk) kp, ⟨_, rfl⟩, q⟩) (hsz := hl)
  | tup h1 h2 =>
    cases rx
    obtain ⟨as, r1, n1⟩ := Dr.reads I hM (.tup h1 h2) rfl
    exact repr_of_reads' r1 hs (fun _ => n1) hg (by omega) (fun _ _ e => e) (fun h' u tk kp => ⟨.str _, H, I.kept (t' := tk) kp, ⟨_, rfl⟩, q⟩) (hsz := hl)
  | dct0 h1 =>
    cases rx
    obtain ⟨as, r1, n1⟩ := Dr.reads I hM (.dct0 h1) rfl
    exact repr_of_reads' r1 hs (fun _ => n1) hg (by omega) (fun _ _ e => e) (fun h' u tk kp => ⟨.str _, H, I.kept (t' := tk) kp, ⟨_, rfl⟩, q⟩) (hsz := hl)
end DL

set_option Elab.async false
set_option maxRecDepth 100000
set_option maxHeartbeats 4000000
/-! DL13: repr of data, what is walked of any kind, calls by promises, empty dict. -/
namespace DL
open PySem PySem.Spec PyProof.Rows L2

mutual
def pyR : D → Option PyData
  | .non => some .none
  | .bl c => some (.bool c)
  | .int i => some (.int i)
  | .str x => some (.str x)
  | .lst l => (pyRs l).map .list
  | .tup l => (pyRs l).map .tuple
  | .dct [] => some (.dict [])
  | .dct (_ :: _) => none
  | .ins _ _ => none
  | .fzl _ => none
  | .wt _ => none
  | .ty _ => none
  | .cls _ => none
  | .exc0 _ => none
  | .exc _ _ => none
def pyRs : List D → Option (List PyData)
  | [] => some []
  | d :: ds => (pyR d).bind fun p => (pyRs ds).map fun ps => p :: ps
end
section
variable {K : PySem.W.Frag} {H G : Hp}
mutual
theorem pyR_dr (e : Ex G H) : ∀ {v : V} {d : D} {p : PyData}, Rp K G v d → pyR d = some p → Dr K H v p
  | _, _, p, .non, h => by cases h; exact .non
  | _, _, p, .bl c, h => by cases h; exact .bl c
  | _, _, p, .int i, h => by cases h; exact .int i
  | _, _, p, .str x, h => by cases h; exact .str x
  | _, _, p, .dct (ds := ds) h1 h2, h => by
    cases h2 with
    | nil =>
      have h : some (PyData.dict []) = some p := by unfold pyR at h; exact h
      cases h
      exact .dct0 (e _ _ h1)
    | cons a b => unfold pyR at h; cases h
  | _, _, p, .ins _ _, h => by unfold pyR at h; cases h
  | _, _, p, .fzl _ _, h => by unfold pyR at h; cases h
  | _, _, p, .wt _ _, h => by unfold pyR at h; cases h
  | _, _, p, .ty _, h => by unfold pyR at h; cases h
  | _, _, p, .cls _, h => by unfold pyR at h; cases h
  | _, _, p, .exc0 _, h => by unfold pyR at h; cases h
  | _, _, p, .exc _ _ _, h => by unfold pyR at h; cases h
  | _, _, p, .lst (ds := ds) h1 h2, h => by
    unfold pyR at h
    cases q : pyRs ds with
    | none => rw [q] at h; cases h
    | some ps => rw [q] at h; cases h; exact .lst (SqL.of (e _ _ h1)) (pyRs_dr e h2 q)
  | _, _, p, .tup (ds := ds) h1 h2, h => by
    unfold pyR at h
    cases q : pyRs ds with
    | none => rw [q] at h; cases h
    | some ps => rw [q] at h; cases h; exact .tup (e.sqt h1.1) (pyRs_dr e h2 q)
theorem pyRs_dr (e : Ex G H) : ∀ {v : List V} {d : List D} {p : List PyData}, RpA K G v d → pyRs d = some p → DrAll K H v p
  | _, _, p, .nil, h => by cases h; exact .nil
  | _, _, p, .cons (d := d) (ds := ds) h1 h2, h => by
    unfold pyRs at h
    cases q : pyR d with
    | none => rw [q] at h; cases h
    | some x =>
      rw [q] at h
      have h' : Option.map (fun ps => x :: ps) (pyRs ds) = some p := h
      cases q2 : pyRs ds with
      | none => rw [q2] at h'; cases h'
      | some ps => rw [q2] at h'; cases h'; exact .cons (pyR_dr e h1 q) (pyRs_dr e h2 q2)
end
theorem rc_dr {v : V} {d : D} {p : PyData} (e : Ex G H) (r : Rc K H G v d) (h : pyR d = some p) : Dr K H v p := by
  rcases r with r | ⟨a, hh, o, rfl, h1, r, rfl⟩
  · exact pyR_dr e r h
  · cases r with
    | lst r =>
      rename_i ds
      have h' : (pyRs ds).map PyData.list = some p := by unfold Own.d pyR at h; exact h
      cases q : pyRs ds with
      | none => rw [q] at h'; cases h'
      | some ps => rw [q] at h'; cases h'; exact .lst (SqL.of h1) (pyRs_dr e r q)
    | dct r =>
      cases r with
      | nil =>
        have h : some (PyData.dict []) = some p := by unfold Own.d pyR at h; exact h
        cases h
        exact .dct0 h1
      | cons a b => unfold Own.d pyR at h; cases h
    | ins r => unfold Own.d pyR at h; cases h
end
/-- the text that repr gives -/
def textD (d : D) : Option Str := (pyR d).bind fun p => if p.showable = true ∧ p.depth ≤ 60 ∧ p.shown.length ≤ sizeLine then some p.shown else none
def gRepr : List D → Option Z
  | [d] => (textD d).map fun x => .d (.str x)
  | _ => none
theorem b_repr {K : PySem.W.Frag} : FnB K (rRepr K) gRepr := fun H G xs ds z Q xx r hz k => by
  unfold gRepr at hz
  split at hz
  · rename_i d
    unfold textD at hz
    cases hp : pyR d with
    | none => rw [hp] at hz; cases hz
    | some p =>
      rw [hp] at hz
      have hz : (if p.showable = true ∧ p.depth ≤ 60 ∧ p.shown.length ≤ sizeLine then some p.shown else none).map (fun x => Z.d (.str x)) = some z := hz
      split at hz
      · rename_i hs
        cases hz
        obtain ⟨v, rfl, r'⟩ := pr1 r
        exact ⟨v, p, rfl, rc_dr xx r' hp, hs.1, hs.2.1, hs.2.2, k _ H ⟨rfl, .str _⟩⟩
      · cases hz
  · cases hz

/-! ### what is walked: a list, a tuple -/
def walkD : D → Option (List D)
  | .lst l => some l
  | .fzl l => some l
  | .tup l => some l
  | .wt l => some l
  | _ => none
def iSeq (K : PySem.W.Frag) (tl : TE) : TI := fun σ H R => tl σ H fun x H1 => ∃ a, x = .ref a ∧ (((∃ xs, SqL K H1 a xs) ∧ R (Itl K a) H1) ∨ ((∃ xs, SqT K H1 a xs) ∧ R (Itt K a) H1))
theorem pi_seq {X : Cx} {tg l : Expr} {tl : TE} (hl : PE X l tl) : PI X tg l (iSeq X.K tl) := by
  refine ⟨fun pins s σ H R I h => ?_⟩
  refine thn (hl.run pins s σ H _ I h) fun v s1 ⟨x, H1, I1, r1, q1⟩ => ?_
  obtain ⟨a, e, q1⟩ := q1
  subst e
  cases r1
  rcases q1 with ⟨⟨xs, hq⟩, q⟩ | ⟨⟨xs, hq⟩, q⟩
  · obtain ⟨its, rv, p, hz⟩ := I1.list hq
    refine wpAny_pyIter_list p.isList ?_
    refine ⟨s1.heap.objs.size, [s1.heap.objs.size], _, _, H1, rfl, I1.kept (t' := s1.toks) fun b o e => Heap.get?_push_of_some _ e, turn_list a _, ⟨_, Heap.get?_push_size _ rfl, rfl, rfl⟩, fun b hb => ?_, q⟩
    have e : b = s1.heap.objs.size := by simpa using hb
    subst e
    exact I1.fpOk (Nat.le_refl _) (I1.hok.fresh (Nat.le_refl _))
  · obtain ⟨its, rv, p, hz⟩ := I1.tuple hq
    refine wpAny_pyIter_tuple (show s1.heap.IsTuple a its.toArray from p) ?_
    refine ⟨s1.heap.objs.size, [s1.heap.objs.size], _, _, H1, rfl, I1.kept (t' := s1.toks) fun b o e => Heap.get?_push_of_some _ e, turn_tuple a _, ⟨_, Heap.get?_push_size _ rfl, rfl, rfl⟩, fun b hb => ?_, q⟩
    have e : b = s1.heap.objs.size := by simpa using hb
    subst e
    exact I1.fpOk (Nat.le_refl _) (I1.hok.fresh (Nat.le_refl _))
def wItS (ks : List Nat) (ta : TD) : TID := fun ρ Q => ta ρ fun r ρ1 => lk (frz ks r ρ1) fun p => lk (walkD p.1) fun l => Q l p.2
theorem i_seq {X : Cx} {b : Bas} {ks : List Nat} {tg e : Expr} {ta : TD} (hk : b.kp.map (·.1) = ks) (he : PD X b e ta) : PI X tg e (liftI X.K b (wItS ks ta)) := i_weak (pi_seq he) fun σ H Rr q => by
  obtain ⟨G, ρ, QD, w, q, k⟩ := q
  refine ⟨G, ρ, _, w, q, fun v H1 G1 r ρ1 w1 m1 q1 z => ?_⟩
  obtain ⟨p, e1, z⟩ := lk_get z
  obtain ⟨d, ρ2⟩ := p
  obtain ⟨G2, w2, m2, x2, r2, _⟩ := w1.frz hk m1 q1 e1
  obtain ⟨l, e2, z⟩ := lk_get z
  cases r2 with
  | lst h1 h2 => cases e2; exact ⟨_, rfl, .inl ⟨⟨_, SqL.of (w2.sub _ _ h1)⟩, k _ H1 G2 _ ρ2 w2 m2 (itD_list (SqL.of h1) h2) z⟩⟩
  | fzl h1 h2 => cases e2; exact ⟨_, rfl, .inl ⟨⟨_, w2.sub.sql h1⟩, k _ H1 G2 _ ρ2 w2 m2 (itD_list h1 h2) z⟩⟩
  | tup h1 h2 => cases e2; exact ⟨_, rfl, .inr ⟨⟨_, w2.sub.sqt h1.1⟩, k _ H1 G2 _ ρ2 w2 m2 (itD_tup h1.1 h2) z⟩⟩
  | wt h1 h2 => cases e2; exact ⟨_, rfl, .inr ⟨⟨_, w2.sub.sqt h1⟩, k _ H1 G2 _ ρ2 w2 m2 (itD_tup h1 h2) z⟩⟩
  | _ => cases e2

/-! ### {} -/
def wDct0 : TD := fun ρ Q => Q (.own (.dct [])) ρ
theorem d_dct0 {X : Cx} {b : Bas} {pos : Pos} : PD X b (.Dict [] [] pos) wDct0 := pe_weak pe_dnewK fun σ H Q q => by
  obtain ⟨G, ρ, QD, w, q, k⟩ := q
  exact fun p hp => k _ _ G (.own (.dct [])) ρ (w.new hp) (w.newF hp) ⟨p, _, rfl, upd_same, w.sub.gone hp, w.bas.gone hp, .dct .nil, w.apart hp, hp⟩ q

/-! ### calls by promises, whatever the frame -/
structure KnownP (P : Program) (w : World) (K : PySem.W.Frag) (mg : Str → Option Value) (base : Heap) (k : Nat) (x : Str) (sp : DSp) : Prop where
  ex : ∃ (f : Addr) (fd : FuncData) (ps : List Str), FnG P w K mg base CX0 k f fd ps (toSp K sp) ∧ mg x = some (.ref f) ∧ PySem.W.keepIn K (.ref f) = true ∧ Binds K fd ps []
section
variable {X : Cx} {b : Bas} {k : Nat} {sp : DSp} {x : Str} {p pos : Pos} {e : Expr} {es : List Expr} {t : TAD} {ks : List Nat}
theorem d_callP (hk : b.kp.map (·.1) = ks) (F : KnownP X.prog X.w X.K X.mg X.base k x sp) (room : Room k X.A) (grd : X.A.guards = some []) (hg : Gl X x) (args : PAD X b (e :: es) t)
    (hd : (x == ("__debug__" : Str)) = false := by decide) (hs : starEach (e :: es) X.env = (false, eval e X.env) :: starEach es X.env := by rfl) (hp : (backTo pos (starEach es X.env)).any (·.1) = false := by rfl) :
    PD X b (.Call (.Name x p) (e :: es) [] pos) (wCall ks sp t) := d_call hk ⟨F.ex⟩ room grd hg args hd hs hp
theorem d_callRP (hk : b.kp.map (·.1) = ks) (F : KnownP X.prog X.w X.K X.mg X.base k x sp) (room : Room k X.A) (grd : X.A.guards = some []) (hg : Gl X x) (args : PAD X b (e :: es) t)
    (hd : (x == ("__debug__" : Str)) = false := by decide) (hs : starEach (e :: es) X.env = (false, eval e X.env) :: starEach es X.env := by rfl) (hp : (backTo pos (starEach es X.env)).any (·.1) = false := by rfl) :
    PD X b (.Call (.Name x p) (e :: es) [] pos) (wCallR ks sp t) := d_callR hk ⟨F.ex⟩ room grd hg args hd hs hp
end
end DL

set_option Elab.async false
set_option maxRecDepth 100000
set_option maxHeartbeats 4000000
/-! DL14: names of built-ins, minus. -/
namespace DL
open PySem PySem.Spec PyProof.Rows L2
theorem bt_len : bootBuiltins "len" = some (.builtin "len") := by decide +kernel
theorem bt_abs : bootBuiltins "abs" = some (.builtin "abs") := by decide +kernel
theorem bt_repr : bootBuiltins "repr" = some (.builtin "repr") := by decide +kernel
theorem bt_isinstance : bootBuiltins "isinstance" = some (.builtin "isinstance") := by decide +kernel
theorem bt_int : bootBuiltins "int" = some (.type "int") := by decide +kernel
theorem bt_str : bootBuiltins "str" = some (.type "str") := by decide +kernel
theorem bt_bool : bootBuiltins "bool" = some (.type "bool") := by decide +kernel
theorem bt_list : bootBuiltins "list" = some (.type "list") := by decide +kernel
section
variable {X : Cx} {b : Bas} {x : Str} {n : String} {pos : Pos}
/-- a built-in type as a value -/
theorem d_tyN (hg : Gl X x) (hm : X.mg x = none) (hv : bootBuiltins x = some (.type n)) (hn : x ≠ "__name__" := by decide) (hd : (x == ("__debug__" : Str)) = false := by decide) : PD X b (.Name x pos) (wC (.ty n)) := d_c (.ty n) (pe_bltn (v := .ty n) hg hm hv rfl hn hd)
end
def gNeg : D → Option Z
  | .int i => some (.d (.int (-i)))
  | _ => none
/-- a comprehension's block, looked at -/
def blkB (N : List Str) (sc scope : Scope) (own : List (Str × Nat)) : Bool := decide (scope.kind = .function ∧ (∀ y ∈ scope.names, scope.names.lookup y.1 = some y.2) ∧ (∀ p ∈ own, N[p.2]? = some p.1) ∧ (∀ y ∈ scope.names, y.2 = .free → sc.names.lookup y.1 = some .cell ∨ sc.names.lookup y.1 = some .free) ∧
  ∀ y ∈ scope.names, y.2 = .local ∨ y.2 = .cell → y.1 ∈ own.map (·.1) ∨ y.1 ∉ N)
theorem blk_ok {N : List Str} {sc scope : Scope} {own : List (Str × Nat)} (h : blkB N sc scope own = true) : BlkOk N sc scope own := by
  have h := of_decide_eq_true h
  exact ⟨h.1, h.2.1, h.2.2.1, h.2.2.2.1, h.2.2.2.2⟩
theorem u64 {k : Nat} {A : Around} (r : Room k A) : A.units + 64 < cLine := by have := r.un; omega
theorem u66 {k : Nat} {A : Around} (r : Room k A) : A.units + 66 < cLine := by have := r.un; omega
/-! ### n += e of whole numbers -/
def gAddN : D → D → Option Z := gInt fAdd
def gSubN : D → D → Option Z := gInt fSub
/-! ### comparisons as tests -/
def bolK (Q : Bool → Rho → Prop) : R → Rho → Prop := fun r ρ => match r with
  | .dat (.bl c) => Q c ρ
  | _ => False
def wBl (t : TD) : TTD := fun ρ Q => t ρ (bolK Q)
theorem bl_go {K : PySem.W.Frag} {b : Bas} {t : TD} {σ : L2.St} {H : Hp} {Q : Bool → Hp → Prop} (q : liftT K b (wBl t) σ H Q) : tTest (lift K b t) σ H Q := by
  obtain ⟨G, ρ, QD, w, q, k⟩ := q
  refine ⟨G, ρ, bolK QD, w, q, fun v H1 G1 r ρ1 w1 m1 q1 z => ?_⟩
  unfold bolK at z
  split at z
  · rename_i c
    have q2 : Rp K G1 v (.bl c) := q1
    cases q2
    exact ⟨c, rfl, k c H1 G1 ρ1 w1 m1 z⟩
  · exact z.elim
section
variable {X : Cx} {b : Bas} {ea eb ec : Expr} {ta tb tc : TD} {pos : Pos}
theorem t_cmp {op : CmpOp} {r : R2} {g : D → D → Option Z} (ho : OpR X (compareOp op) r) (hr : Op2 X.K r g) (ha : PD X b ea ta) (hb : PD X b eb tb) (hm : behindInMarks op eb = false) : PTD X b (.Compare ea [op] [eb] pos) (wBl (wOp g ta tb)) :=
  pt_weak (pt_cmpR ho ha hb hm) fun _ _ _ q => op_go hr (bl_go q)
theorem t_chain {op op' : CmpOp} {r r' : R2} {g g' : D → D → Option Z} (ho : OpR X (compareOp op) r) (ho' : OpR X (compareOp op') r') (hg : Op2 X.K r g) (hg' : Op2 X.K r' g') (ha : PD X b ea ta) (hb : PD X b eb tb) (hc : PD X b ec tc)
    (hm : lastMarks [op, op'] [eb, ec] = false := by with_unfolding_all rfl) : PTD X b (.Compare ea [op, op'] [eb, ec] pos) (wBl (wChain g g' ta tb tc)) :=
  pt_weak (pt_chain ho ho' ha hb hc hm) fun _ _ _ q => chain_go hg hg' (bl_go q)
end
end DL

set_option Elab.async false
set_option maxRecDepth 100000
set_option maxHeartbeats 4000000
/-! DL15: how a def's reading keeps its promise; running readings. -/
namespace DL
open PySem PySem.Spec PyProof.Rows L2
def endsF (n : Nat) (QD : R → List Sl → Prop) : EndsD := { nx := fun ρ => QD (.dat .non) (ρ.take n), rt := fun r ρ => match r with | .bor _ => False | r => QD r (ρ.take n) }
/-- what a def of N names computes keeps the promise -/
def PL (N n : Nat) (rd : List Nat → SD) (sp : DSp) : Prop := ∀ args QD ED, sp args QD ED → args.length = n ∧ rd (ixOf 0 args) (endsF n QD) (args ++ List.replicate (N - n) .no)
theorem endsF_nx {n : Nat} {QD : R → List Sl → Prop} {ρ : Rho} : (endsF n QD).nx ρ = QD (.dat .non) (ρ.take n) := rfl
theorem endsF_dat {n : Nat} {QD : R → List Sl → Prop} {ρ : Rho} {d : D} : (endsF n QD).rt (.dat d) ρ = QD (.dat d) (ρ.take n) := rfl
theorem endsF_own {n : Nat} {QD : R → List Sl → Prop} {ρ : Rho} {o : Own} : (endsF n QD).rt (.own o) ρ = QD (.own o) (ρ.take n) := rfl
theorem PL.fn {P : Program} {w : World} {K : PySem.W.Frag} {mg : Str → Option Value} {base : Heap} {k : Nat} {x qual : Str} {st : Stmt} {f : Addr} {fd : FuncData} {N ps : List Str} {sp : DSp} {rd : List Nat → SD} (p : PL N.length ps.length rd sp) (F : Fun K x qual st f fd) (S : FnScope N ps (defScope st))
    (d : ∀ (cdv : Value) (A : Around) (out : List Env) (s0 : Shared) (H : Hp) (b : Bas) (ks : List Nat) (E : XK), Room k (A.deeper (envOfC qual (defScope st) s0.heap.objs.size f cdv)) → (A.deeper (envOfC qual (defScope st) s0.heap.objs.size f cdv)).guards = some [] → b.kp.map (·.1) = ks →
      PSsD (cxOf CX0 P w K mg base N qual (defScope st) f cdv A out s0 H E).nox b (defBody st) (rd ks)) : FnG P w K mg base CX0 (k + 1) f fd ps (toSp K sp) :=
  fnG_ok F S (fun args QD ED h => (p args QD ED h).1) fun cdv A out s0 H b args QD ED E room grd hk h => by
    obtain ⟨h1, h2⟩ := p args QD ED h
    refine ⟨_, d cdv A out s0 H b _ E room grd hk, ?_⟩
    rw [← h1] at h2
    exact h2
theorem KnownP.up {P : Program} {w : World} {K : PySem.W.Frag} {mg : Str → Option Value} {base : Heap} {k : Nat} {x : Str} {sp : DSp} (h : KnownP P w K mg base k x sp) : KnownP P w K mg base k x sp := h

/-! ### items at written places -/
section
variable {α : Type} {a b c d : α} {l : List α}
theorem atI_0 : atI (a :: l) 0 = some a := by
  unfold atI ixN
  rw [if_pos (Int.le_refl 0), if_pos (show (0 : Int) < ((a :: l).length : Int) by rw [List.length_cons]; omega)]
  rfl
theorem atI_1 : atI (a :: b :: l) 1 = some b := by
  unfold atI ixN
  rw [if_pos (by decide), if_pos (show (1 : Int) < ((a :: b :: l).length : Int) by rw [List.length_cons, List.length_cons]; omega)]
  rfl
theorem atI_2 : atI (a :: b :: c :: l) 2 = some c := by
  unfold atI ixN
  rw [if_pos (by decide), if_pos (show (2 : Int) < ((a :: b :: c :: l).length : Int) by rw [List.length_cons, List.length_cons, List.length_cons]; omega)]
  rfl
theorem atI_3 : atI (a :: b :: c :: d :: l) 3 = some d := by
  unfold atI ixN
  rw [if_pos (by decide), if_pos (show (3 : Int) < ((a :: b :: c :: d :: l).length : Int) by rw [List.length_cons, List.length_cons, List.length_cons, List.length_cons]; omega)]
  rfl
theorem atI_nat {i : Int} {j : Nat} (h : i = (j : Nat)) : atI l i = l[j]? := by
  subst h
  unfold atI ixN
  rw [if_pos (by omega)]
  by_cases hl : j < l.length
  · rw [if_pos (by omega)]; rfl
  · rw [if_neg (by omega), List.getElem?_eq_none (by omega)]; rfl
end
theorem lk_eq {α : Type} {x : Option α} {k : α → Prop} {a : α} (e : x = some a) : lk x k = k a := by rw [e]; rfl
/-! ### == at written forms -/
theorem eqB_nil : gEqB (.lst []) (.lst []) = some true := by simp [gEqB, quick, deepEq, pyD, pyDs, PyData.canLay0, PyData.canLayAll0, PyData.depth, PyData.depthAll, PyData.eqv, PyData.eqvAll]
theorem eqB_cons {d : D} {ds : List D} : gEqB (.lst (d :: ds)) (.lst []) = some false := by simp [gEqB, quick]
theorem eqB_tup0 {l : List D} : gEqB (.tup l) (.tup []) = some l.isEmpty := by cases l <;> simp [gEqB, quick]
theorem eqB_int {i j : Int} : gEqB (.int i) (.int j) = some (i == j) := by simp [gEqB, quick, deepEq, pyD, PyData.canLay0, PyData.depth, PyData.eqv]
theorem eqB_non {j : Int} : gEqB .non (.int j) = some false := by simp [gEqB, quick, deepEq, pyD, PyData.canLay0, PyData.depth, PyData.eqv]
theorem eqB_str {x y : Str} : gEqB (.str x) (.str y) = some (x == y) := rfl
theorem eqA_eq {neg c : Bool} {d e : D} (h : gEqB d e = some c) : gEqA neg d e = some (.d (.bl (neg != c))) := by unfold gEqA; rw [h]; rfl
theorem bne_f {c : Bool} : (false != c) = c := by cases c <;> rfl
theorem bne_t {c : Bool} : (true != c) = !c := by cases c <;> rfl
theorem eqA_nil {neg : Bool} : gEqA neg (.lst []) (.lst []) = some (.d (.bl (neg != true))) := eqA_eq eqB_nil
theorem eqA_cons {neg : Bool} {d : D} {ds : List D} : gEqA neg (.lst (d :: ds)) (.lst []) = some (.d (.bl (neg != false))) := eqA_eq eqB_cons
theorem eqA_tup0 {neg : Bool} {l : List D} : gEqA neg (.tup l) (.tup []) = some (.d (.bl (neg != l.isEmpty))) := eqA_eq eqB_tup0
theorem eqA_int {neg : Bool} {i j : Int} : gEqA neg (.int i) (.int j) = some (.d (.bl (neg != (i == j)))) := eqA_eq eqB_int
theorem eqA_non {neg : Bool} {j : Int} : gEqA neg .non (.int j) = some (.d (.bl (neg != false))) := eqA_eq eqB_non
theorem eqA_l0 {neg : Bool} {l : List D} : gEqA neg (.lst l) (.lst []) = some (.d (.bl (neg != l.isEmpty))) := by cases l with
  | nil => exact eqA_nil
  | cons d ds => exact eqA_cons
theorem atI_mem {α : Type} {l : List α} {i : Int} (h0 : 0 ≤ i) (h1 : i < (l.length : Int)) : ∃ x, x ∈ l ∧ atI l i = some x ∧ l[i.toNat]? = some x := by
  have h2 : i.toNat < l.length := by omega
  have e : l[i.toNat]? = some l[i.toNat] := List.getElem?_eq_getElem h2
  refine ⟨l[i.toNat], List.getElem_mem h2, ?_, e⟩
  rw [atI_nat (j := i.toNat) (by omega)]
  exact e
theorem atI_map {α β : Type} {l : List α} {f : α → β} {i : Int} (h0 : 0 ≤ i) (h1 : i < (l.length : Int)) : ∃ x, x ∈ l ∧ atI (l.map f) i = some (f x) := by
  obtain ⟨y, h2, h3, _⟩ := atI_mem (l := l.map f) h0 (by rw [List.length_map]; exact h1)
  obtain ⟨x, hx, rfl⟩ := List.mem_map.mp h2
  exact ⟨x, hx, h3⟩
theorem sIx_some {n d k : Nat} : HT.sIx n d (some (k : Int)) = min k n := HT.sIx_nat n d k
theorem cutD_to {l : List D} (k : Nat) : cutD l none (some (k : Int)) = l.take k := by
  unfold cutD
  rw [sIx_some]
  show (l.drop 0).take (min k l.length - 0) = _
  rw [List.drop_zero, Nat.sub_zero]
  by_cases h : k ≤ l.length
  · rw [Nat.min_eq_left h]
  · rw [Nat.min_eq_right (by omega), List.take_of_length_le (by omega), List.take_of_length_le (by omega)]
theorem cutD_from {l : List D} (k : Nat) : cutD l (some (k : Int)) none = l.drop k := by
  unfold cutD
  rw [sIx_some]
  show (l.drop (min k l.length)).take (l.length - min k l.length) = _
  by_cases h : k ≤ l.length
  · rw [Nat.min_eq_left h, List.take_of_length_le (by rw [List.length_drop]; omega)]
  · rw [Nat.min_eq_right (by omega), Nat.sub_self, List.take_zero, List.drop_of_length_le (by omega)]
theorem cutD_mid {l : List D} (a b : Nat) : cutD l (some (a : Int)) (some (b : Int)) = (l.drop a).take (b - a) := by
  unfold cutD
  rw [sIx_some, sIx_some]
  by_cases h : a ≤ l.length
  · rw [Nat.min_eq_left h]
    by_cases h2 : b ≤ l.length
    · rw [Nat.min_eq_left h2]
    · rw [Nat.min_eq_right (by omega), List.take_of_length_le (by rw [List.length_drop]; omega), List.take_of_length_le (by rw [List.length_drop]; omega)]
  · rw [Nat.min_eq_right (a := a) (by omega), List.drop_of_length_le (Nat.le_refl _), List.drop_of_length_le (by omega), List.take_nil, List.take_nil]
theorem ixN_int {n : Nat} {i : Int} (h0 : 0 ≤ i) (h : i < (n : Int)) : ixN n i = some i.toNat := by
  unfold ixN
  rw [if_pos h0, if_pos h]
/-! ### tables looked up -/
end DL

set_option Elab.async false
set_option maxRecDepth 100000
set_option maxHeartbeats 4000000
/-! DL16: readings run from the head: every continuation is a named function, so that nothing behind it is looked at before its turn. -/
namespace DL
open PySem PySem.Spec PyProof.Rows L2
section
variable {α : Type} {ρ ρ1 ρ2 ρ3 : Rho} {Q : R → Rho → Prop} {QT : Bool → Rho → Prop} {QA : List R → Rho → Prop} {QI : List D → Rho → Prop} {QH : Rho → Prop} {i n : Nat} {d e : D} {o : Own} {r r1 r2 : R} {rs : List R} {ds : List D} {ks vs is : List Nat} {ta tb tc : TD} {t u : TTD} {tA : TAD} {s s' : SD} {DD : EndsD} {c : Bool} {g : D → D → Option Z} {z : Z} {sp : DSp}
/-- the ends of what stands ahead of t; of a loop's body -/
def seqE (t : SD) (DD : EndsD) : EndsD := { DD with nx := t DD }
def loopE (nx : Rho → Prop) (DD : EndsD) : EndsD := { DD with nx := nx, ct := nx, bk := DD.nx }
theorem seqE_nx : (seqE s DD).nx ρ = s DD ρ := rfl
theorem seqE_rt : (seqE s DD).rt = DD.rt := rfl
theorem seqE_bk : (seqE s DD).bk = DD.bk := rfl
theorem seqE_ct : (seqE s DD).ct = DD.ct := rfl
theorem loopE_nx : (loopE QH DD).nx = QH := rfl
theorem loopE_rt : (loopE QH DD).rt = DD.rt := rfl
theorem loopE_bk : (loopE QH DD).bk = DD.nx := rfl
theorem loopE_ct : (loopE QH DD).ct = QH := rfl
theorem e_seq : wSeq s s' DD ρ = s (seqE s' DD) ρ := rfl
theorem e_next : wNext DD ρ = DD.nx ρ := rfl
theorem e_break : wBreak DD ρ = DD.bk ρ := rfl
theorem e_cont : wCont DD ρ = DD.ct ρ := rfl
theorem e_retN : wRetN DD ρ = DD.rt (.dat .non) ρ := rfl
/-- names -/
def qVar (i : Nat) (ρ : Rho) (Q : R → Rho → Prop) : Option Sl → Prop
  | some (.dat d) => Q (.dat d) ρ
  | some (.own _) => Q (.bor i) ρ
  | _ => False
theorem e_var : wVar i ρ Q = qVar i ρ Q ρ[i]? := by unfold wVar qVar; rfl
theorem q_var_d : qVar i ρ Q (some (.dat d)) = Q (.dat d) ρ := rfl
theorem q_var_o : qVar i ρ Q (some (.own o)) = Q (.bor i) ρ := rfl
theorem e_c : wC d ρ Q = Q (.dat d) ρ := rfl
def conS : Option Sl → Option D
  | some (.own o) => some o.d
  | some (.dat d) => some d
  | _ => none
theorem con_d : con ρ (.dat d) = some d := rfl
theorem con_o : con ρ (.own o) = some o.d := rfl
theorem con_b : con ρ (.bor i) = conS ρ[i]? := by unfold con conS; rfl
theorem conS_d : conS (some (.dat d)) = some d := rfl
theorem conS_o : conS (some (.own o)) = some o.d := rfl
theorem own_l : (Own.lst ds).d = .lst ds := rfl
theorem own_d {l : List (Key × D)} : (Own.dct l).d = .dct l := rfl
theorem own_i {C : Addr} {l : List (Str × D)} : (Own.ins C l).d = .ins C l := rfl
theorem z_d : (Z.d d).r = .dat d := rfl
theorem z_n : (Z.n o).r = .own o := rfl
theorem z_t : (Z.t ds).r = .dat (.tup ds) := rfl
theorem z_w : (Z.w ds).r = .dat (.wt ds) := rfl
theorem sl_d : (R.dat d).sl = .dat d := rfl
theorem sl_o : (R.own o).sl = .own o := rfl
def qFrz (i : Nat) (ρ : Rho) : Option Sl → Option (D × Rho)
  | some (.own o) => some (o.d, ρ.set i (.dat o.d))
  | some (.dat x) => some (x, ρ)
  | _ => none
theorem frz_d : frz ks (.dat d) ρ = some (d, ρ) := rfl
theorem frz_o : frz ks (.own o) ρ = some (o.d, ρ) := rfl
theorem frz_b : frz ks (.bor i) ρ = if i ∈ ks then none else qFrz i ρ ρ[i]? := by unfold frz qFrz; rfl
theorem q_frz_d : qFrz i ρ (some (.dat d)) = some (d, ρ) := rfl
theorem q_frz_o : qFrz i ρ (some (.own o)) = some (o.d, ρ.set i (.dat o.d)) := rfl
def kFz (r : D) (q : List D × Rho) : List D × Rho := (r :: q.1, q.2)
def kFzs (ks : List Nat) (rs : List R) (p : D × Rho) : Option (List D × Rho) := (frzs ks rs p.2).map (kFz p.1)
theorem frzs_nil : frzs ks [] ρ = some ([], ρ) := rfl
theorem frzs_cons : frzs ks (r :: rs) ρ = (frz ks r ρ).bind (kFzs ks rs) := rfl
theorem k_fzs : kFzs ks rs (d, ρ) = (frzs ks rs ρ).map (kFz d) := rfl
theorem k_fz : kFz d (ds, ρ) = (d :: ds, ρ) := rfl
theorem thin_d : thin ks (.dat d) ρ = some (.dat d, ρ) := rfl
theorem thin_o : thin ks (.own o) ρ = some (.own o, ρ) := rfl
def kTh (p : D × Rho) : R × Rho := (.dat p.1, p.2)
theorem thin_b : thin ks (.bor i) ρ = (frz ks (.bor i) ρ).map kTh := rfl
theorem k_th : kTh (d, ρ) = (.dat d, ρ) := rfl
def kTs (r : R) (q : List R × Rho) : List R × Rho := (r :: q.1, q.2)
def kThs (ks : List Nat) (rs : List R) (p : R × Rho) : Option (List R × Rho) := (thins ks rs p.2).map (kTs p.1)
theorem thins_nil : thins ks [] ρ = some ([], ρ) := rfl
theorem thins_cons : thins ks (r :: rs) ρ = (thin ks r ρ).bind (kThs ks rs) := rfl
theorem k_ths : kThs ks rs (r, ρ) = (thins ks rs ρ).map (kTs r) := rfl
theorem k_ts : kTs r (rs, ρ) = (r :: rs, ρ) := rfl
theorem setR_nil : setR [] rs ρ = ρ := by cases rs <;> rfl
theorem setR_cons : setR (i :: is) (r :: rs) ρ = setR is rs (ρ.set i r.sl) := rfl
/-- operations -/
def kE (Q : R → Rho → Prop) (ρ : Rho) (z : Z) : Prop := Q z.r ρ
theorem k_e : kE Q ρ z = Q z.r ρ := rfl
def kOp4 (g : D → D → Option Z) (d1 : D) (Q : R → Rho → Prop) (ρ2 : Rho) (d2 : D) : Prop := lk (g d1 d2) (kE Q ρ2)
def kOp3 (g : D → D → Option Z) (r2 : R) (Q : R → Rho → Prop) (ρ2 : Rho) (d1 : D) : Prop := lk (con ρ2 r2) (kOp4 g d1 Q ρ2)
def kOp2 (g : D → D → Option Z) (r1 : R) (Q : R → Rho → Prop) (r2 : R) (ρ2 : Rho) : Prop := lk (con ρ2 r1) (kOp3 g r2 Q ρ2)
def kOp1 (g : D → D → Option Z) (tb : TD) (Q : R → Rho → Prop) (r1 : R) (ρ1 : Rho) : Prop := tb ρ1 (kOp2 g r1 Q)
theorem e_op : wOp g ta tb ρ Q = ta ρ (kOp1 g tb Q) := rfl
theorem k_op1 : kOp1 g tb Q r1 ρ1 = tb ρ1 (kOp2 g r1 Q) := rfl
theorem k_op2 : kOp2 g r1 Q r2 ρ2 = lk (con ρ2 r1) (kOp3 g r2 Q ρ2) := rfl
theorem k_op3 : kOp3 g r2 Q ρ2 d = lk (con ρ2 r2) (kOp4 g d Q ρ2) := rfl
theorem k_op4 : kOp4 g d Q ρ2 e = lk (g d e) (kE Q ρ2) := rfl
def kUn2 (h : D → Option Z) (Q : R → Rho → Prop) (ρ : Rho) (d : D) : Prop := lk (h d) (kE Q ρ)
def kUn1 (h : D → Option Z) (Q : R → Rho → Prop) (r : R) (ρ : Rho) : Prop := lk (con ρ r) (kUn2 h Q ρ)
theorem e_un {h : D → Option Z} : wUn h ta ρ Q = ta ρ (kUn1 h Q) := rfl
theorem k_un1 {h : D → Option Z} : kUn1 h Q r ρ = lk (con ρ r) (kUn2 h Q ρ) := rfl
theorem k_un2 {h : D → Option Z} : kUn2 h Q ρ d = lk (h d) (kE Q ρ) := rfl
/-- argument lists -/
def kCo2 (r : R) (Q : List R → Rho → Prop) (rs : List R) (ρ : Rho) : Prop := Q (r :: rs) ρ
def kCo1 (tr : TAD) (Q : List R → Rho → Prop) (r : R) (ρ1 : Rho) : Prop := tr ρ1 (kCo2 r Q)
theorem e_nil : wNil ρ QA = QA [] ρ := rfl
theorem e_cons : wCons ta tA ρ QA = ta ρ (kCo1 tA QA) := rfl
theorem k_co1 : kCo1 tA QA r ρ = tA ρ (kCo2 r QA) := rfl
theorem k_co2 : kCo2 r QA rs ρ = QA (r :: rs) ρ := rfl
theorem conL_nil : conL ρ [] = some [] := rfl
def kCl2 (d : D) (ds : List D) : List D := d :: ds
def kCl (ρ : Rho) (rs : List R) (d : D) : Option (List D) := (conL ρ rs).map (kCl2 d)
theorem conL_cons : conL ρ (r :: rs) = (con ρ r).bind (kCl ρ rs) := rfl
theorem k_cl : kCl ρ rs d = (conL ρ rs).map (kCl2 d) := rfl
theorem k_cl2 : kCl2 d ds = d :: ds := rfl
def kB2 (h : List D → Option Z) (Q : R → Rho → Prop) (ρ : Rho) (ds : List D) : Prop := lk (h ds) (kE Q ρ)
def kB1 (h : List D → Option Z) (Q : R → Rho → Prop) (rs : List R) (ρ : Rho) : Prop := lk (conL ρ rs) (kB2 h Q ρ)
theorem e_b {h : List D → Option Z} : wB h tA ρ Q = tA ρ (kB1 h Q) := rfl
theorem k_b1 {h : List D → Option Z} : kB1 h Q rs ρ = lk (conL ρ rs) (kB2 h Q ρ) := rfl
theorem k_b2 {h : List D → Option Z} : kB2 h Q ρ ds = lk (h ds) (kE Q ρ) := rfl
def kTup2 (Q : R → Rho → Prop) (p : List D × Rho) : Prop := p.1.length ≤ sizeLine ∧ Q (.dat (.tup p.1)) p.2
def kTup1 (ks : List Nat) (Q : R → Rho → Prop) (rs : List R) (ρ : Rho) : Prop := lk (frzs ks rs ρ) (kTup2 Q)
theorem e_tup : wTup ks tA ρ Q = tA ρ (kTup1 ks Q) := rfl
theorem k_tup1 : kTup1 ks Q rs ρ = lk (frzs ks rs ρ) (kTup2 Q) := rfl
theorem k_tup2 : kTup2 Q (ds, ρ) = (ds.length ≤ sizeLine ∧ Q (.dat (.tup ds)) ρ) := rfl
def kLst2 (Q : R → Rho → Prop) (p : List D × Rho) : Prop := p.1.length ≤ sizeLine ∧ Q (.own (.lst p.1)) p.2
def kLst1 (ks : List Nat) (Q : R → Rho → Prop) (rs : List R) (ρ : Rho) : Prop := lk (frzs ks rs ρ) (kLst2 Q)
theorem e_lst : wLst ks tA ρ Q = tA ρ (kLst1 ks Q) := rfl
theorem k_lst1 : kLst1 ks Q rs ρ = lk (frzs ks rs ρ) (kLst2 Q) := rfl
theorem k_lst2 : kLst2 Q (ds, ρ) = (ds.length ≤ sizeLine ∧ Q (.own (.lst ds)) ρ) := rfl
theorem e_dct0 : wDct0 ρ Q = Q (.own (.dct [])) ρ := rfl
/-- calls -/
def noX : Xc → List Sl → Prop := fun _ _ => False
def kRetQ (Q : R → Rho → Prop) (ρ : Rho) (r : R) (_ : List Sl) : Prop := Q r ρ
theorem k_ret {a : List Sl} : kRetQ Q ρ r a = Q r ρ := rfl
def kCa2 (sp : DSp) (Q : R → Rho → Prop) (p : List D × Rho) : Prop := sp (p.1.map .dat) (kRetQ Q p.2) noX
def kCa1 (ks : List Nat) (sp : DSp) (Q : R → Rho → Prop) (rs : List R) (ρ : Rho) : Prop := lk (frzs ks rs ρ) (kCa2 sp Q)
theorem e_call : wCall ks sp tA ρ Q = tA ρ (kCa1 ks sp Q) := rfl
theorem k_ca1 : kCa1 ks sp Q rs ρ = lk (frzs ks rs ρ) (kCa2 sp Q) := rfl
theorem k_ca2 : kCa2 sp Q (ds, ρ) = sp (ds.map .dat) (kRetQ Q ρ) noX := rfl
def kRetR (i : Nat) (ρ : Rho) (Q : R → Rho → Prop) (r : R) : List Sl → Prop
  | .own o' :: _ => Q r (ρ.set i (.own o'))
  | _ => False
theorem k_retR {a : List Sl} : kRetR i ρ Q r (.own o :: a) = Q r (ρ.set i (.own o)) := rfl
def qCr3 (i : Nat) (ds : List D) (ρ : Rho) (sp : DSp) (Q : R → Rho → Prop) : Option Sl → Prop
  | some (.own o) => sp (.own o :: ds.map .dat) (kRetR i ρ Q) noX
  | _ => False
def kCr2 (i : Nat) (sp : DSp) (Q : R → Rho → Prop) (p : List D × Rho) : Prop := qCr3 i p.1 p.2 sp Q p.2[i]?
def kCr1 (ks : List Nat) (sp : DSp) (Q : R → Rho → Prop) (rs : List R) (ρ : Rho) : Prop := match rs with
  | .bor i :: rest => lk (frzs ks rest ρ) (kCr2 i sp Q)
  | _ => False
theorem e_callR : wCallR ks sp tA ρ Q = tA ρ (kCr1 ks sp Q) := by
  unfold wCallR
  congr 1
theorem k_cr1 : kCr1 ks sp Q (.bor i :: rs) ρ = lk (frzs ks rs ρ) (kCr2 i sp Q) := rfl
theorem k_cr2 : kCr2 i sp Q (ds, ρ) = qCr3 i ds ρ sp Q ρ[i]? := rfl
theorem k_cr3 : qCr3 i ds ρ sp Q (some (.own o)) = sp (.own o :: ds.map .dat) (kRetR i ρ Q) noX := rfl
/-- tests -/
def kTr3 (Q : Bool → Rho → Prop) (ρ : Rho) (c : Bool) : Prop := Q c ρ
def kTr2 (Q : Bool → Rho → Prop) (ρ : Rho) (d : D) : Prop := lk (truD d) (kTr3 Q ρ)
def kTr1 (Q : Bool → Rho → Prop) (r : R) (ρ : Rho) : Prop := lk (con ρ r) (kTr2 Q ρ)
theorem e_tr : wTr ta ρ QT = ta ρ (kTr1 QT) := rfl
theorem k_tr1 : kTr1 QT r ρ = lk (con ρ r) (kTr2 QT ρ) := rfl
theorem k_tr2 : kTr2 QT ρ d = lk (truD d) (kTr3 QT ρ) := rfl
theorem k_tr3 : kTr3 QT ρ c = QT c ρ := rfl
theorem e_bl : wBl ta ρ QT = ta ρ (bolK QT) := rfl
theorem k_bl : bolK QT (.dat (.bl c)) ρ = QT c ρ := rfl
def kAnd (u : TTD) (Q : Bool → Rho → Prop) (c : Bool) (ρ : Rho) : Prop := if c = true then u ρ Q else Q false ρ
def kOr (u : TTD) (Q : Bool → Rho → Prop) (c : Bool) (ρ : Rho) : Prop := if c = true then Q true ρ else u ρ Q
def kNot (Q : Bool → Rho → Prop) (c : Bool) (ρ : Rho) : Prop := Q (!c) ρ
def kIf (ta tb : TD) (Q : R → Rho → Prop) (c : Bool) (ρ : Rho) : Prop := if c = true then ta ρ Q else tb ρ Q
def kIfS (s s' : SD) (DD : EndsD) (c : Bool) (ρ : Rho) : Prop := if c = true then s DD ρ else s' DD ρ
theorem e_and : wAnd t u ρ QT = t ρ (kAnd u QT) := rfl
theorem k_and : kAnd u QT c ρ = if c = true then u ρ QT else QT false ρ := rfl
theorem e_or : wOr t u ρ QT = t ρ (kOr u QT) := rfl
theorem k_or : kOr u QT c ρ = if c = true then QT true ρ else u ρ QT := rfl
theorem e_not : wNot t ρ QT = t ρ (kNot QT) := rfl
theorem k_not : kNot QT c ρ = QT (!c) ρ := rfl
theorem e_if : wIf t ta tb ρ Q = t ρ (kIf ta tb Q) := rfl
theorem k_if : kIf ta tb Q c ρ = if c = true then ta ρ Q else tb ρ Q := rfl
theorem e_ifS : wIfS t s s' DD ρ = t ρ (kIfS s s' DD) := rfl
theorem k_ifS : kIfS s s' DD c ρ = if c = true then s DD ρ else s' DD ρ := rfl
def kNv2 (Q : R → Rho → Prop) (ρ : Rho) (c : Bool) : Prop := Q (.dat (.bl (!c))) ρ
def kNv1 (Q : R → Rho → Prop) (r : R) (ρ : Rho) : Prop := lk ((con ρ r).bind bD) (kNv2 Q ρ)
theorem e_notV : wNotV ta ρ Q = ta ρ (kNv1 Q) := rfl
theorem k_nv1 : kNv1 Q r ρ = lk ((con ρ r).bind bD) (kNv2 Q ρ) := rfl
theorem k_nv2 : kNv2 Q ρ c = Q (.dat (.bl (!c))) ρ := rfl
def kAv2 (tb : TD) (Q : R → Rho → Prop) (ρ : Rho) (c : Bool) : Prop := if c = true then tb ρ Q else Q (.dat (.bl false)) ρ
def kAv1 (tb : TD) (Q : R → Rho → Prop) (r : R) (ρ : Rho) : Prop := lk ((con ρ r).bind bD) (kAv2 tb Q ρ)
theorem e_andV : wAndV ta tb ρ Q = ta ρ (kAv1 tb Q) := rfl
theorem k_av1 : kAv1 tb Q r ρ = lk ((con ρ r).bind bD) (kAv2 tb Q ρ) := rfl
theorem k_av2 : kAv2 tb Q ρ c = if c = true then tb ρ Q else Q (.dat (.bl false)) ρ := rfl
def kOv2 (tb : TD) (Q : R → Rho → Prop) (ρ : Rho) (c : Bool) : Prop := if c = true then Q (.dat (.bl true)) ρ else tb ρ Q
def kOv1 (tb : TD) (Q : R → Rho → Prop) (r : R) (ρ : Rho) : Prop := lk ((con ρ r).bind bD) (kOv2 tb Q ρ)
theorem e_orV : wOrV ta tb ρ Q = ta ρ (kOv1 tb Q) := rfl
theorem k_ov1 : kOv1 tb Q r ρ = lk ((con ρ r).bind bD) (kOv2 tb Q ρ) := rfl
theorem k_ov2 : kOv2 tb Q ρ c = if c = true then Q (.dat (.bl true)) ρ else tb ρ Q := rfl
theorem bD_bl : bD (.bl c) = some c := rfl
/-- slices -/
def kSl4 (g : D → Option Int → Option Int → Option Z) (lo hi : Option Int) (Q : R → Rho → Prop) (ρ : Rho) (d : D) : Prop := lk (g d lo hi) (kE Q ρ)
def kSl3 (g : D → Option Int → Option Int → Option Z) (r : R) (lo : Option Int) (Q : R → Rho → Prop) (hi : Option Int) (ρ : Rho) : Prop := lk (con ρ r) (kSl4 g lo hi Q ρ)
def kSl2 (g : D → Option Int → Option Int → Option Z) (th : Rho → (Option Int → Rho → Prop) → Prop) (r : R) (Q : R → Rho → Prop) (lo : Option Int) (ρ : Rho) : Prop := th ρ (kSl3 g r lo Q)
def kSl1 (g : D → Option Int → Option Int → Option Z) (tl th : Rho → (Option Int → Rho → Prop) → Prop) (Q : R → Rho → Prop) (r : R) (ρ : Rho) : Prop := tl ρ (kSl2 g th r Q)
theorem e_sl {g : D → Option Int → Option Int → Option Z} {tl th : Rho → (Option Int → Rho → Prop) → Prop} : wSl g ta tl th ρ Q = ta ρ (kSl1 g tl th Q) := rfl
theorem k_sl1 {g : D → Option Int → Option Int → Option Z} {tl th : Rho → (Option Int → Rho → Prop) → Prop} : kSl1 g tl th Q r ρ = tl ρ (kSl2 g th r Q) := rfl
theorem k_sl2 {g : D → Option Int → Option Int → Option Z} {th : Rho → (Option Int → Rho → Prop) → Prop} {lo : Option Int} : kSl2 g th r Q lo ρ = th ρ (kSl3 g r lo Q) := rfl
theorem k_sl3 {g : D → Option Int → Option Int → Option Z} {lo hi : Option Int} : kSl3 g r lo Q hi ρ = lk (con ρ r) (kSl4 g lo hi Q ρ) := rfl
theorem k_sl4 {g : D → Option Int → Option Int → Option Z} {lo hi : Option Int} : kSl4 g lo hi Q ρ d = lk (g d lo hi) (kE Q ρ) := rfl
def kPt2 (Q : Option Int → Rho → Prop) (ρ : Rho) : D → Prop
  | .int i => Q (some i) ρ
  | _ => False
def kPt1 (Q : Option Int → Rho → Prop) (r : R) (ρ : Rho) : Prop := lk (con ρ r) (kPt2 Q ρ)
theorem e_part {Q : Option Int → Rho → Prop} : wPart ta ρ Q = ta ρ (kPt1 Q) := by
  unfold wPart
  congr 1
theorem k_pt1 {Q : Option Int → Rho → Prop} : kPt1 Q r ρ = lk (con ρ r) (kPt2 Q ρ) := rfl
theorem k_pt2 {Q : Option Int → Rho → Prop} {j : Int} : kPt2 Q ρ (.int j) = Q (some j) ρ := rfl
theorem e_noP {Q : Option Int → Rho → Prop} : wNoP ρ Q = Q none ρ := rfl
/-- d.get(k) -/
def kGe4 (l : List (Key × D)) (Q : R → Rho → Prop) (ρ : Rho) (k : Key) : Prop := Q (.dat ((lookKD l k).getD .non)) ρ
def kGe3 (r2 : R) (Q : R → Rho → Prop) (ρ : Rho) (l : List (Key × D)) : Prop := lk ((con ρ r2).bind keyD) (kGe4 l Q ρ)
def kGe2 (r : R) (Q : R → Rho → Prop) (r2 : R) (ρ : Rho) : Prop := lk ((con ρ r).bind dctD) (kGe3 r2 Q ρ)
def kGe1b (tb : TD) (r : R) (Q : R → Rho → Prop) (ρ : Rho) (_ : List (Key × D)) : Prop := tb ρ (kGe2 r Q)
def kGe1 (tb : TD) (Q : R → Rho → Prop) (r : R) (ρ : Rho) : Prop := lk ((con ρ r).bind dctD) (kGe1b tb r Q ρ)
theorem e_dget : wDGet1 ta tb ρ Q = ta ρ (kGe1 tb Q) := rfl
theorem k_ge1 : kGe1 tb Q r ρ = lk ((con ρ r).bind dctD) (kGe1b tb r Q ρ) := rfl
theorem k_ge1b {l : List (Key × D)} : kGe1b tb r Q ρ l = tb ρ (kGe2 r Q) := rfl
theorem k_ge2 : kGe2 r Q r2 ρ = lk ((con ρ r).bind dctD) (kGe3 r2 Q ρ) := rfl
theorem k_ge3 {l : List (Key × D)} : kGe3 r2 Q ρ l = lk ((con ρ r2).bind keyD) (kGe4 l Q ρ) := rfl
theorem k_ge4 {l : List (Key × D)} {k : Key} : kGe4 l Q ρ k = Q (.dat ((lookKD l k).getD .non)) ρ := rfl
theorem dctD_d {l : List (Key × D)} : dctD (.dct l) = some l := rfl
theorem keyD_i {j : Int} : keyD (.int j) = some (.inl j) := rfl
theorem keyD_s {x : Str} : keyD (.str x) = some (.inr x) := rfl
/-- methods, stores -/
def kMu4 (i : Nat) (ρ : Rho) (Q : R → Rho → Prop) (q : List D × D) : Prop := Q (.dat q.2) (ρ.set i (.own (.lst q.1)))
def qMu3 (i : Nat) (h : List D → List D → Option (List D × D)) (ds : List D) (ρ : Rho) (Q : R → Rho → Prop) : Option Sl → Prop
  | some (.own (.lst l)) => lk (h l ds) (kMu4 i ρ Q)
  | _ => False
def kMu2 (i : Nat) (h : List D → List D → Option (List D × D)) (Q : R → Rho → Prop) (p : List D × Rho) : Prop := qMu3 i h p.1 p.2 Q p.2[i]?
def kMu1 (ks : List Nat) (i : Nat) (h : List D → List D → Option (List D × D)) (Q : R → Rho → Prop) (rs : List R) (ρ : Rho) : Prop := lk (frzs ks rs ρ) (kMu2 i h Q)
def qMu0 (ks : List Nat) (i : Nat) (h : List D → List D → Option (List D × D)) (tA : TAD) (ρ : Rho) (Q : R → Rho → Prop) : Option Sl → Prop
  | some (.own (.lst _)) => tA ρ (kMu1 ks i h Q)
  | _ => False
theorem e_mut {h : List D → List D → Option (List D × D)} : wMut ks i h tA ρ Q = qMu0 ks i h tA ρ Q ρ[i]? := by
  unfold wMut qMu0
  cases ρ[i]? with
  | none => rfl
  | some s => cases s with
    | no => rfl
    | dat d => rfl
    | own o => cases o with
      | lst l =>
        show tA _ _ = tA _ _
        congr 1
      | dct l => rfl
      | ins C l => rfl
theorem q_mu0 {h : List D → List D → Option (List D × D)} {l : List D} : qMu0 ks i h tA ρ Q (some (.own (.lst l))) = tA ρ (kMu1 ks i h Q) := rfl
theorem k_mu1 {h : List D → List D → Option (List D × D)} : kMu1 ks i h Q rs ρ = lk (frzs ks rs ρ) (kMu2 i h Q) := rfl
theorem k_mu2 {h : List D → List D → Option (List D × D)} : kMu2 i h Q (ds, ρ) = qMu3 i h ds ρ Q ρ[i]? := rfl
theorem q_mu3 {h : List D → List D → Option (List D × D)} {l : List D} : qMu3 i h ds ρ Q (some (.own (.lst l))) = lk (h l ds) (kMu4 i ρ Q) := rfl
theorem k_mu4 {l : List D} : kMu4 i ρ Q (l, d) = Q (.dat d) (ρ.set i (.own (.lst l))) := rfl
def kPu5 (i : Nat) (d : D) (ρ : Rho) (l : List D) (DD : EndsD) (j : Nat) : Prop := DD.nx (ρ.set i (.own (.lst (l.set j d))))
def qPu4 (i : Nat) (d : D) (ρ : Rho) (DD : EndsD) : D → Option Sl → Prop
  | .int k, some (.own (.lst l)) => lk (ixN l.length k) (kPu5 i d ρ l DD)
  | _, _ => False
def kPu4 (i : Nat) (d : D) (ρ : Rho) (DD : EndsD) (dk : D) : Prop := qPu4 i d ρ DD dk ρ[i]?
def kPu3 (i : Nat) (d : D) (DD : EndsD) (rk : R) (ρ : Rho) : Prop := lk (con ρ rk) (kPu4 i d ρ DD)
def kPu2 (i : Nat) (ti : TD) (DD : EndsD) (p : D × Rho) : Prop := (∃ l0, p.2[i]? = some (.own (.lst l0))) ∧ ti p.2 (kPu3 i p.1 DD)
def kPu1 (ks : List Nat) (i : Nat) (ti : TD) (DD : EndsD) (r : R) (ρ : Rho) : Prop := lk (frz ks r ρ) (kPu2 i ti DD)
theorem e_put : wPut ks i ta tb DD ρ = tb ρ (kPu1 ks i ta DD) := by
  unfold wPut
  congr 1
theorem k_pu1 : kPu1 ks i ta DD r ρ = lk (frz ks r ρ) (kPu2 i ta DD) := rfl
theorem k_pu2 : kPu2 i ta DD (d, ρ) = ((∃ l0, ρ[i]? = some (.own (.lst l0))) ∧ ta ρ (kPu3 i d DD)) := rfl
theorem k_pu3 : kPu3 i d DD r ρ = lk (con ρ r) (kPu4 i d ρ DD) := rfl
theorem k_pu4 : kPu4 i d ρ DD e = qPu4 i d ρ DD e ρ[i]? := rfl
theorem q_pu4 {k : Int} {l : List D} : qPu4 i d ρ DD (.int k) (some (.own (.lst l))) = lk (ixN l.length k) (kPu5 i d ρ l DD) := rfl
theorem k_pu5 {l : List D} {j : Nat} : kPu5 i d ρ l DD j = DD.nx (ρ.set i (.own (.lst (l.set j d)))) := rfl
def kAu3 (ks : List Nat) (i : Nat) (DD : EndsD) (ρ : Rho) (z : Z) : Prop := if i ∈ ks then False else DD.nx (ρ.set i z.r.sl)
def kAu2 (ks : List Nat) (i : Nat) (g : D → D → Option Z) (d0 : D) (DD : EndsD) (ρ : Rho) (d : D) : Prop := lk (g d0 d) (kAu3 ks i DD ρ)
def kAu1 (ks : List Nat) (i : Nat) (g : D → D → Option Z) (d0 : D) (DD : EndsD) (r : R) (ρ : Rho) : Prop := lk (con ρ r) (kAu2 ks i g d0 DD ρ)
def qAu0 (ks : List Nat) (i : Nat) (g : D → D → Option Z) (ta : TD) (DD : EndsD) (ρ : Rho) : Option Sl → Prop
  | some (.dat d0) => ta ρ (kAu1 ks i g d0 DD)
  | _ => False
theorem e_aug : wAug ks i g ta DD ρ = qAu0 ks i g ta DD ρ ρ[i]? := by unfold wAug qAu0; rfl
theorem q_au0 : qAu0 ks i g ta DD ρ (some (.dat d)) = ta ρ (kAu1 ks i g d DD) := rfl
theorem k_au1 : kAu1 ks i g d DD r ρ = lk (con ρ r) (kAu2 ks i g d DD ρ) := rfl
theorem k_au2 : kAu2 ks i g d DD ρ e = lk (g d e) (kAu3 ks i DD ρ) := rfl
theorem k_au3 : kAu3 ks i DD ρ z = if i ∈ ks then False else DD.nx (ρ.set i z.r.sl) := rfl
/-- assignments -/
def kAs2 (i : Nat) (DD : EndsD) (p : R × Rho) : Prop := DD.nx (p.2.set i p.1.sl)
def kAs1 (ks : List Nat) (i : Nat) (DD : EndsD) (r : R) (ρ : Rho) : Prop := if i ∈ ks then False else lk (thin ks r ρ) (kAs2 i DD)
theorem e_asg : wAsg ks i ta DD ρ = ta ρ (kAs1 ks i DD) := rfl
theorem k_as1 : kAs1 ks i DD r ρ = if i ∈ ks then False else lk (thin ks r ρ) (kAs2 i DD) := rfl
theorem k_as2 : kAs2 i DD (r, ρ) = DD.nx (ρ.set i r.sl) := rfl
def kPa2 (is : List Nat) (DD : EndsD) (p : List R × Rho) : Prop := DD.nx (setR is p.1 p.2)
def kPa1 (ks is : List Nat) (DD : EndsD) (rs : List R) (ρ : Rho) : Prop := (∀ i ∈ is, i ∉ ks) ∧ rs.length = is.length ∧ lk (thins ks rs ρ) (kPa2 is DD)
theorem e_par : wPar ks is tA DD ρ = tA ρ (kPa1 ks is DD) := rfl
theorem k_pa1 : kPa1 ks is DD rs ρ = ((∀ i ∈ is, i ∉ ks) ∧ rs.length = is.length ∧ lk (thins ks rs ρ) (kPa2 is DD)) := rfl
theorem k_pa2 : kPa2 is DD (rs, ρ) = DD.nx (setR is rs ρ) := rfl
def kUp2 (g : GD) (DD : EndsD) (p : D × Rho) : Prop := g p.1 p.2 DD.nx
def kUp1 (ks : List Nat) (g : GD) (DD : EndsD) (r : R) (ρ : Rho) : Prop := lk (frz ks r ρ) (kUp2 g DD)
theorem e_unp {g : GD} : wUnp ks ta g DD ρ = ta ρ (kUp1 ks g DD) := rfl
theorem k_up1 {g : GD} : kUp1 ks g DD r ρ = lk (frz ks r ρ) (kUp2 g DD) := rfl
theorem k_up2 {g : GD} : kUp2 g DD (d, ρ) = g d ρ DD.nx := rfl
theorem e_hName : hName ks i d ρ QH = if i ∈ ks then False else QH (ρ.set i (.dat d)) := rfl
theorem e_hNil : hNil [] ρ QH = QH ρ := propext ⟨fun h => h.2, fun h => ⟨rfl, h⟩⟩
def kHc (r : List D → Rho → (Rho → Prop) → Prop) (ds : List D) (QH : Rho → Prop) (ρ : Rho) : Prop := r ds ρ QH
theorem e_hCons {g : GD} {r : List D → Rho → (Rho → Prop) → Prop} : hCons g r (d :: ds) ρ QH = g d ρ (kHc r ds QH) := rfl
theorem k_hc {r : List D → Rho → (Rho → Prop) → Prop} : kHc r ds QH ρ = r ds ρ QH := rfl
theorem e_hTup {r : List D → Rho → (Rho → Prop) → Prop} : hTup n r (.tup ds) ρ QH = (ds.length = n ∧ r ds ρ QH) := rfl
theorem e_hWt {r : List D → Rho → (Rho → Prop) → Prop} : hTup n r (.wt ds) ρ QH = (ds.length = n ∧ r ds ρ QH) := rfl
def kDr (DD : EndsD) (_ : R) (ρ : Rho) : Prop := DD.nx ρ
theorem e_drop : wDrop ta DD ρ = ta ρ (kDr DD) := rfl
theorem k_dr : kDr DD r ρ = DD.nx ρ := rfl
def qOut (i : Nat) (ρ : Rho) (Q : R → Rho → Prop) : Option Sl → Prop
  | some (.own o) => Q (.own o) (ρ.set i .no)
  | some (.dat d) => Q (.dat d) ρ
  | _ => False
def kRt (ks : List Nat) (Q : R → Rho → Prop) (r : R) (ρ : Rho) : Prop := outR ks r ρ Q
theorem e_ret : wRet ks ta DD ρ = ta ρ (kRt ks DD.rt) := rfl
theorem k_rt_d : kRt ks Q (.dat d) ρ = Q (.dat d) ρ := rfl
theorem k_rt_o : kRt ks Q (.own o) ρ = Q (.own o) ρ := rfl
theorem k_rt_b : kRt ks Q (.bor i) ρ = if i ∈ ks then False else qOut i ρ Q ρ[i]? := by unfold kRt outR qOut; rfl
theorem q_out_o : qOut i ρ Q (some (.own o)) = Q (.own o) (ρ.set i .no) := rfl
theorem q_out_d : qOut i ρ Q (some (.dat d)) = Q (.dat d) ρ := rfl
/-- loops -/
def kFo2 (g : GD) (sb : SD) (DD : EndsD) (ds : List D) (ρ : Rho) : Prop := sb (loopE (forL g sb DD ds) DD) ρ
theorem forL_nil {g : GD} : forL g s DD [] ρ = DD.nx ρ := rfl
theorem forL_cons {g : GD} : forL g s DD (d :: ds) ρ = g d ρ (kFo2 g s DD ds) := rfl
theorem k_fo2 {g : GD} : kFo2 g s DD ds ρ = s (loopE (forL g s DD ds) DD) ρ := rfl
def kFo1 (g : GD) (sb : SD) (DD : EndsD) (ds : List D) (ρ : Rho) : Prop := forL g sb DD ds ρ
theorem e_for {ti : TID} {g : GD} : wFor ti g s DD ρ = ti ρ (kFo1 g s DD) := rfl
theorem k_fo1 {g : GD} : kFo1 g s DD ds ρ = forL g s DD ds ρ := rfl
def kWh (t : TTD) (sb : SD) (DD : EndsD) (n : Nat) (c : Bool) (ρ : Rho) : Prop := if c = true then sb (loopE (whileN t sb DD n) DD) ρ else DD.nx ρ
theorem k_wh : kWh t s DD n c ρ = if c = true then s (loopE (whileN t s DD n) DD) ρ else DD.nx ρ := rfl
def kIt3 (Q : List D → Rho → Prop) (ρ : Rho) (l : List D) : Prop := Q l ρ
def kIt2 (Q : List D → Rho → Prop) (p : D × Rho) : Prop := lk (walkD p.1) (kIt3 Q p.2)
def kIt1 (ks : List Nat) (Q : List D → Rho → Prop) (r : R) (ρ : Rho) : Prop := lk (frz ks r ρ) (kIt2 Q)
theorem e_itS : wItS ks ta ρ QI = ta ρ (kIt1 ks QI) := rfl
theorem k_it1 : kIt1 ks QI r ρ = lk (frz ks r ρ) (kIt2 QI) := rfl
theorem k_it2 : kIt2 QI (d, ρ) = lk (walkD d) (kIt3 QI ρ) := rfl
theorem k_it3 : kIt3 QI ρ ds = QI ds ρ := rfl
theorem walk_l : walkD (.lst ds) = some ds := rfl
theorem walk_f : walkD (.fzl ds) = some ds := rfl
theorem walk_t : walkD (.tup ds) = some ds := rfl
def rangeD (j : Int) : List D := (List.range j.toNat).map fun n => .int (n : Nat)
def range2D (i j : Int) : List D := (List.range (j - i).toNat).map fun n => .int (i + (n : Nat))
def kR12 (Q : List D → Rho → Prop) (ρ : Rho) : List D → Prop
  | [.int j] => -(2 ^ 62) ≤ j ∧ j < 2 ^ 62 ∧ Q (rangeD j) ρ
  | _ => False
def kR11 (Q : List D → Rho → Prop) (rs : List R) (ρ : Rho) : Prop := lk (conL ρ rs) (kR12 Q ρ)
theorem e_itR1 : wItR1 tA ρ QI = tA ρ (kR11 QI) := by
  unfold wItR1
  congr 1
theorem k_r11 : kR11 QI rs ρ = lk (conL ρ rs) (kR12 QI ρ) := rfl
theorem k_r12 {j : Int} : kR12 QI ρ [.int j] = (-(2 ^ 62) ≤ j ∧ j < 2 ^ 62 ∧ QI (rangeD j) ρ) := rfl
def kR22 (Q : List D → Rho → Prop) (ρ : Rho) : List D → Prop
  | [.int i, .int j] => (-(2 ^ 62) ≤ i ∧ i < 2 ^ 62 ∧ -(2 ^ 62) ≤ j ∧ j < 2 ^ 62) ∧ Q (range2D i j) ρ
  | _ => False
def kR21 (Q : List D → Rho → Prop) (rs : List R) (ρ : Rho) : Prop := lk (conL ρ rs) (kR22 Q ρ)
theorem e_itR2 : wItR2 tA ρ QI = tA ρ (kR21 QI) := by
  unfold wItR2
  congr 1
theorem k_r21 : kR21 QI rs ρ = lk (conL ρ rs) (kR22 QI ρ) := rfl
theorem k_r22 {i j : Int} : kR22 QI ρ [.int i, .int j] = ((-(2 ^ 62) ≤ i ∧ i < 2 ^ 62 ∧ -(2 ^ 62) ≤ j ∧ j < 2 ^ 62) ∧ QI (range2D i j) ρ) := rfl
def kEn3 (Q : List D → Rho → Prop) (ρ : Rho) (l : List D) : Prop := Q (enumD 0 l) ρ
def kEn2 (Q : List D → Rho → Prop) (p : List D × Rho) : Prop := match p.1 with
  | [x] => lk (listD x) (kEn3 Q p.2)
  | _ => False
def kEn1 (ks : List Nat) (Q : List D → Rho → Prop) (rs : List R) (ρ : Rho) : Prop := lk (frzs ks rs ρ) (kEn2 Q)
theorem e_itE : wItE ks tA ρ QI = tA ρ (kEn1 ks QI) := by
  unfold wItE
  congr 1
theorem k_en1 : kEn1 ks QI rs ρ = lk (frzs ks rs ρ) (kEn2 QI) := rfl
theorem k_en2 : kEn2 QI ([d], ρ) = lk (listD d) (kEn3 QI ρ) := rfl
theorem k_en3 : kEn3 QI ρ ds = QI (enumD 0 ds) ρ := rfl
theorem list_l : listD (.lst ds) = some ds := rfl
theorem list_f : listD (.fzl ds) = some ds := rfl
/-- comprehensions -/
def kLcQ (vs : List Nat) (ρ1 : Rho) (Q : R → Rho → Prop) (acc : List D) (ρ2 : Rho) : Prop := Q (.own (.lst acc)) (unw vs ρ1 ρ2)
def kLc (ks : List Nat) (g : GD) (tt : TTD) (te : TD) (vs : List Nat) (Q : R → Rho → Prop) (ds : List D) (ρ1 : Rho) : Prop := (∀ v ∈ vs, v ∉ ks ∧ ∀ o, ρ1[v]? ≠ some (.own o)) ∧ compL ks g tt te vs ds [] (wipR ρ1 vs) (kLcQ vs ρ1 Q)
theorem e_lc {ti : TID} {g : GD} : wLc ks ti g t ta vs ρ Q = ti ρ (kLc ks g t ta vs Q) := rfl
theorem k_lc {g : GD} : kLc ks g t ta vs Q ds ρ = ((∀ v ∈ vs, v ∉ ks ∧ ∀ o, ρ[v]? ≠ some (.own o)) ∧ compL ks g t ta vs ds [] (wipR ρ vs) (kLcQ vs ρ Q)) := rfl
theorem k_lcQ : kLcQ vs ρ1 Q ds ρ2 = Q (.own (.lst ds)) (unw vs ρ1 ρ2) := rfl
def kC4 (ks : List Nat) (g : GD) (tt : TTD) (te : TD) (vs : List Nat) (ds acc : List D) (Q : List D → Rho → Prop) (p : D × Rho) : Prop := acc.length < sizeLine ∧ compL ks g tt te vs ds (acc ++ [p.1]) (wipR p.2 vs) Q
def kC3 (ks : List Nat) (g : GD) (tt : TTD) (te : TD) (vs : List Nat) (ds acc : List D) (Q : List D → Rho → Prop) (r : R) (ρ : Rho) : Prop := lk (frz ks r ρ) (kC4 ks g tt te vs ds acc Q)
def kC2 (ks : List Nat) (g : GD) (tt : TTD) (te : TD) (vs : List Nat) (ds acc : List D) (Q : List D → Rho → Prop) (c : Bool) (ρ : Rho) : Prop := if c = true then te ρ (kC3 ks g tt te vs ds acc Q) else compL ks g tt te vs ds acc (wipR ρ vs) Q
def kC1 (ks : List Nat) (g : GD) (tt : TTD) (te : TD) (vs : List Nat) (ds acc : List D) (Q : List D → Rho → Prop) (ρ : Rho) : Prop := tt ρ (kC2 ks g tt te vs ds acc Q)
theorem compL_nil {g : GD} {acc : List D} : compL ks g t ta vs [] acc ρ QI = QI acc ρ := rfl
theorem compL_cons {g : GD} {acc : List D} : compL ks g t ta vs (d :: ds) acc ρ QI = g d ρ (kC1 ks g t ta vs ds acc QI) := rfl
theorem k_c1 {g : GD} {acc : List D} : kC1 ks g t ta vs ds acc QI ρ = t ρ (kC2 ks g t ta vs ds acc QI) := rfl
theorem k_c2 {g : GD} {acc : List D} : kC2 ks g t ta vs ds acc QI c ρ = if c = true then ta ρ (kC3 ks g t ta vs ds acc QI) else compL ks g t ta vs ds acc (wipR ρ vs) QI := rfl
theorem k_c3 {g : GD} {acc : List D} : kC3 ks g t ta vs ds acc QI r ρ = lk (frz ks r ρ) (kC4 ks g t ta vs ds acc QI) := rfl
theorem k_c4 {g : GD} {acc : List D} : kC4 ks g t ta vs ds acc QI (d, ρ) = (acc.length < sizeLine ∧ compL ks g t ta vs ds (acc ++ [d]) (wipR ρ vs) QI) := rfl
theorem e_yes : wYes ρ QT = QT true ρ := rfl
theorem wip_nil : wipR ρ [] = ρ := rfl
theorem wip_cons : wipR ρ (i :: is) = (wipR ρ is).set i .no := rfl
theorem unw_nil : unw [] ρ1 ρ2 = ρ2 := rfl
theorem unw_cons : unw (i :: is) ρ1 ρ2 = (unw is ρ1 ρ2).set i ((ρ1[i]?).getD .no) := rfl
end

/-! ### operations at written forms -/
section
variable {i j k : Int} {x y : Str} {l m : List D} {d : D} {c : Bool} {lo hi : Option Int}
theorem g_int {f : Int → Int → Option D} : gInt f (.int i) (.int j) = (f i j).map .d := rfl
theorem f_add : fAdd i j = some (.int (i + j)) := rfl
theorem f_sub : fSub i j = some (.int (i - j)) := rfl
theorem f_mul : fMul i j = if i.natAbs.log2 + j.natAbs.log2 < 1000000 then some (.int (i * j)) else none := rfl
theorem f_div : fDiv i j = if 0 < j ∧ j.natAbs.log2 < 9000 then some (.int (i / j)) else none := rfl
theorem f_mod : fMod i j = if 0 < j then some (.int (i % j)) else none := rfl
theorem f_pow : fPow i j = if 0 ≤ j ∧ j ≤ 1000000 ∧ i.natAbs < 2 ^ 64 then some (.int (i ^ j.toNat)) else none := rfl
theorem f_lt : fLt i j = some (.bl (decide (i < j))) := rfl
theorem f_le : fLe i j = some (.bl (decide (i ≤ j))) := rfl
theorem f_gt : fGt i j = some (.bl (decide (j < i))) := rfl
theorem f_ge : fGe i j = some (.bl (decide (j ≤ i))) := rfl
theorem add_i : gAdd (.int i) (.int j) = some (.d (.int (i + j))) := rfl
theorem add_s : gAdd (.str x) (.str y) = if x.length + y.length ≤ sizeLine then some (.d (.str (x ++ y))) else none := rfl
theorem add_l : gAdd (.lst l) (.lst m) = if l.length + m.length ≤ sizeLine then some (.n (.lst (l ++ m))) else none := rfl
theorem add_t : gAdd (.tup l) (.tup m) = if l.length + m.length ≤ sizeLine then some (.t (l ++ m)) else none := rfl
theorem mul_i : gMul (.int i) (.int j) = (fMul i j).map .d := rfl
theorem mul_l : gMul (.lst l) (.int k) = if -(2 ^ 63) ≤ k ∧ k < 2 ^ 63 ∧ l.length * k.toNat ≤ sizeLine then some (.n (.lst (List.replicate k.toNat l).flatten)) else none := rfl
theorem mul_t : gMul (.tup l) (.int k) = if -(2 ^ 63) ≤ k ∧ k ≤ 1000 ∧ l.length ≤ 1000 then some (.t (List.replicate k.toNat l).flatten) else none := rfl
theorem neg_i : gNeg (.int i) = some (.d (.int (-i))) := rfl
theorem ix_l : gIx (.lst l) (.int i) = (atI l i).map .d := rfl
theorem ix_t : gIx (.tup l) (.int i) = (atI l i).map .d := rfl
theorem sl_l : gSl (.lst l) lo hi = some (.n (.lst (cutD l lo hi))) := rfl
theorem sl_f : gSl (.fzl l) lo hi = some (.n (.lst (cutD l lo hi))) := rfl
theorem sl_t : gSl (.tup l) lo hi = some (.t (cutD l lo hi)) := rfl
theorem len_l : gLen [.lst l] = some (.d (.int l.length)) := rfl
theorem len_f : gLen [.fzl l] = some (.d (.int l.length)) := rfl
theorem len_t : gLen [.tup l] = some (.d (.int l.length)) := rfl
theorem len_s : gLen [.str x] = if x.length ≤ sizeLine then some (.d (.int x.length)) else none := rfl
theorem abs_i : gAbs [.int i] = some (.d (.int (if i < 0 then -i else i))) := rfl
theorem int_i : gIntOf [.int i] = some (.d (.int i)) := rfl
theorem lof_l : gListOf [.lst l] = some (.n (.lst l)) := rfl
theorem lof_f : gListOf [.fzl l] = some (.n (.lst l)) := rfl
theorem lof_t : gListOf [.tup l] = some (.n (.lst l)) := rfl
theorem tof_l : gTupOf [.lst l] = some (.t l) := rfl
theorem tof_f : gTupOf [.fzl l] = some (.t l) := rfl
theorem tof_t : gTupOf [.tup l] = some (.t l) := rfl
theorem dof_t : gDictOf [.tup l] = (pairsD l).map fun ps => .n (.dct (mergeKD [] ps)) := rfl
theorem app_l : gAppend l [d] = if l.length < sizeLine then some (l ++ [d], .non) else none := rfl
theorem ext_t : gExtend l [.tup m] = if l.length + m.length ≤ sizeLine then some (l ++ m, .non) else none := rfl
theorem ext_l : gExtend l [.lst m] = if l.length + m.length ≤ sizeLine then some (l ++ m, .non) else none := rfl
theorem tru_b : truD (.bl c) = some c := rfl
theorem tru_i : truD (.int i) = some (i != 0) := rfl
theorem tru_l : truD (.lst l) = some (!l.isEmpty) := rfl
theorem tru_t : truD (.tup l) = some (!l.isEmpty) := rfl
theorem tru_n : truD .non = some false := rfl
theorem augN : gAddN (.int i) (.int j) = some (.d (.int (i + j))) := rfl
theorem subN : gSubN (.int i) (.int j) = some (.d (.int (i - j))) := rfl
theorem is_bl {a : Bool} {neg : Bool} : gIs neg (.bl a) (.bl c) = some (.d (.bl (neg != decide (a = c)))) := rfl
theorem is_non {neg : Bool} : gIs neg d .non = some (.d (.bl (neg != nonD d))) := rfl
theorem ixN4_0 : ixN 4 0 = some 0 := rfl
theorem ixN4_1 : ixN 4 1 = some 1 := rfl
theorem ixN4_2 : ixN 4 2 = some 2 := rfl
theorem ixN4_3 : ixN 4 3 = some 3 := rfl
end
end DL

set_option Elab.async false
set_option maxRecDepth 100000
set_option maxHeartbeats 4000000
/-! DL17: module constants, texts in texts, signs of a text in turn, all, min, max, clear, count. -/
namespace DL
open PySem PySem.Spec PyProof.Rows L2
section
variable {X : Cx} {b : Bas} {x : Str} {pos : Pos}
/-- a module's constant -/
theorem d_globI {i : Int} {t : Tok} (hg : Gl X x) (hm : X.mg x = some (.int i t)) (hd : (x == ("__debug__" : Str)) = false := by decide) : PD X b (.Name x pos) (wC (.int i)) := d_c (.int i) (pe_glob (v := .int i) hg hm ⟨t, rfl⟩ hd)
theorem d_globS {z : Str} {t : Tok} (hg : Gl X x) (hm : X.mg x = some (.str z t)) (hd : (x == ("__debug__" : Str)) = false := by decide) : PD X b (.Name x pos) (wC (.str z)) := d_c (.str z) (pe_glob (v := .str z) hg hm ⟨t, rfl⟩ hd)
end

/-! ### in of texts, lists, tuples -/
def gInA (neg : Bool) (d y : D) : Option Z := match d, y with
  | .str i, .str j => some (.d (.bl (neg != !(Builtin.Str.occurrences j i 0 j.length 1).isEmpty)))
  | d, y => gIn neg d y
def rInS (neg : Bool) : R2 := fun x y H Q => ∃ i j, x = .str i ∧ y = .str j ∧ Q (.bl (neg != !(Builtin.Str.occurrences j i 0 j.length 1).isEmpty)) H
def rInA (K : PySem.W.Frag) (neg : Bool) : R2 := fun x y H Q => rInS neg x y H Q ∨ rInP K neg x y H Q
section
variable {X : Cx}
theorem op_inSt : OpR X (compareOp .In) (rInS false) := by
  intro pins s σ H x y v u Q I rx ry h
  obtain ⟨i, j, e1, e2, q⟩ := h
  exact op_in_str pins s σ H x y v u Q I rx ry ⟨i, j, e1, e2, by rw [Bool.false_bne] at q; exact q⟩
theorem op_notInSt : OpR X (compareOp .NotIn) (rInS true) := by
  intro pins s σ H x y v u Q I rx ry h
  obtain ⟨i, j, e1, e2, q⟩ := h
  exact op_notIn_str pins s σ H x y v u Q I rx ry ⟨i, j, e1, e2, by rw [Bool.true_bne] at q; exact q⟩
theorem op_inA (hu : X.A.units + 66 < cLine) : OpR X (compareOp .In) (rInA X.K false) := op_inSt.or (op_inP hu)
theorem op_notInA (hu : X.A.units + 66 < cLine) : OpR X (compareOp .NotIn) (rInA X.K true) := op_notInSt.or (op_notInP hu)
end
theorem o_inA {K : PySem.W.Frag} {neg : Bool} : Op2 K (rInA K neg) (gInA neg) := fun H G x y d e z Q xx rx ry hz k => by
  unfold gInA at hz
  split at hz
  · rename_i i j
    cases hz
    exact .inl ⟨i, j, rx.str, ry.str, k _ H ⟨rfl, .bl _⟩⟩
  · exact .inr (o_in H G x y d e z Q xx rx ry hz k)

/-! ### the signs of a text -/
def signsD (x : Str) : List D := x.cps.toList.map fun c => .str ⟨#[c]⟩
theorem itD_str {K : PySem.W.Frag} {G : Hp} (x : Str) : ItD K (Its x) (signsD x) G := fun i H G1 x1 x2 => by
  refine ⟨fun d e => ?_, fun hl => by rw [signsD, List.length_map, Array.length_toList] at hl; exact hl⟩
  rw [signsD, List.getElem?_map] at e
  cases q : x.cps.toList[i]? with
  | none => rw [q] at e; cases e
  | some c =>
    rw [q] at e
    cases e
    have q' : x.cps[i]? = some c := by rw [← q]; simp
    refine ⟨?_, fun v H' y => ?_⟩
    · exact (Array.getElem?_eq_some_iff.mp q').1
    · obtain ⟨rfl, c', h1, rfl⟩ := y
      rw [q'] at h1
      cases h1
      exact ⟨.d (.str ⟨#[c]⟩), rfl, rfl, .str _⟩
def wItT2 (ta : TD) : TID := fun ρ Q => ta ρ fun r ρ1 => lk (con ρ1 r) fun d => match d with
  | .str x => Q (signsD x) ρ1
  | _ => False
theorem i_str {X : Cx} {b : Bas} {tg e : Expr} {ta : TD} (he : PD X b e ta) : PI X tg e (liftI X.K b (wItT2 ta)) := i_weak (pi_str he) fun σ H Rr q => by
  obtain ⟨G, ρ, QD, w, q, k⟩ := q
  refine ⟨G, ρ, _, w, q, fun v H1 G1 r ρ1 w1 m1 q1 z => ?_⟩
  obtain ⟨d, e1, z⟩ := lk_get z
  have rc := q1.rc w1 e1
  cases d <;> try exact z.elim
  rename_i x
  exact ⟨x, rc.str, k _ H1 G1 _ ρ1 w1 m1 (itD_str x) z⟩

/-! ### all, min, max; clear, count -/
def blsD : List D → Option (List Bool)
  | [] => some []
  | .bl c :: l => (blsD l).map (c :: ·)
  | _ => none
def intsD : List D → Option (List Int)
  | [] => some []
  | .int i :: l => (intsD l).map (i :: ·)
  | _ => none
section
variable {K : PySem.W.Frag} {G : Hp}
theorem blsD_rp : ∀ {xs : List V} {ds : List D} {bs : List Bool}, RpA K G xs ds → blsD ds = some bs → xs = bs.map V.bl
  | _, _, bs, .nil, h => by cases h; rfl
  | _, _, bs, .cons (d := d) (ds := l) h r, e => by
    cases d with
    | bl c =>
      cases h
      have e : (blsD l).map (c :: ·) = some bs := e
      cases q : blsD l with
      | none => rw [q] at e; cases e
      | some cs => rw [q] at e; cases e; rw [blsD_rp r q]; rfl
    | _ => cases e
end
def maxI : Int → List Int → Int
  | i, [] => i
  | i, j :: l => maxI (if j > i then j else i) l
def minI : Int → List Int → Int
  | i, [] => i
  | i, j :: l => minI (if j < i then j else i) l
def gAll : List D → Option Z
  | [.lst l] => (blsD l).map fun bs => .d (.bl (bs.all id))
  | _ => none
def gMax : List D → Option Z
  | [.lst l] => (intsD l).bind fun ns => match ns with
    | [] => none
    | i :: ns => some (.d (.int (maxI i ns)))
  | [.int i, .int j] => some (.d (.int (if j > i then j else i)))
  | _ => none
def gMin : List D → Option Z
  | [.lst l] => (intsD l).bind fun ns => match ns with
    | [] => none
    | i :: ns => some (.d (.int (minI i ns)))
  | [.int i, .int j] => some (.d (.int (if j < i then j else i)))
  | _ => none
section
variable {X : Cx} {K : PySem.W.Frag}
theorem b_all : FnB K (rAll K) gAll := fun H G xs ds z Q xx r hz k => by
  unfold gAll at hz
  split at hz
  · rename_i l
    cases q : blsD l with
    | none => rw [q] at hz; cases hz
    | some bs =>
      rw [q] at hz
      cases hz
      obtain ⟨v, rfl, r'⟩ := pr1 r
      obtain ⟨a, ys, rfl, h1, r1⟩ := r'.lst xx
      rw [blsD_rp r1 q] at h1
      exact ⟨a, bs, rfl, SqL.of h1, k _ H ⟨rfl, .bl _⟩⟩
  · cases hz
def gClear : List D → List D → Option (List D × D)
  | _, [] => some ([], .non)
  | _, _ => none
end
end DL

set_option Elab.async false
set_option maxRecDepth 100000
set_option maxHeartbeats 4000000
/-! DL18: methods of a text with one argument; join; list of a text; zip of two lists; a list turned. -/
namespace DL
open PySem PySem.Spec PyProof.Rows L2
def strsD : List D → Option (List Str)
  | [] => some []
  | .str c :: l => (strsD l).map (c :: ·)
  | _ => none
theorem strsD_rp {K : PySem.W.Frag} {G : Hp} : ∀ {xs : List V} {ds : List D} {bs : List Str}, RpA K G xs ds → strsD ds = some bs → xs = bs.map V.str
  | _, _, bs, .nil, h => by cases h; rfl
  | _, _, bs, .cons (d := d) (ds := l) h r, e => by
    cases d with
    | str c =>
      cases h
      have e : (strsD l).map (c :: ·) = some bs := e
      cases q : strsD l with
      | none => rw [q] at e; cases e
      | some cs => rw [q] at e; cases e; rw [strsD_rp r q]; rfl
    | _ => cases e
def wM1 (g : Str → D → Option Z) (ta tb : TD) : TD := fun ρ Q => ta ρ fun r1 ρ1 => lk (con ρ1 r1) fun d1 => match d1 with
  | .str a => tb ρ1 fun r2 ρ2 => lk (con ρ2 r2) fun d2 => lk (g a d2) fun z => Q z.r ρ2
  | _ => False
def Mt1 (K : PySem.W.Frag) (r : V → List V → Hp → VK → Prop) (g : Str → D → Option Z) : Prop := Op2 K (fun x y H Q => r x [y] H Q) (fun d e => match d with
  | .str a => g a e
  | _ => none)
theorem m1_go {K : PySem.W.Frag} {b : Bas} {r : V → List V → Hp → VK → Prop} {g : Str → D → Option Z} (hr : Mt1 K r g) {ta tb : TD} {σ : L2.St} {H : Hp} {Q : VK} (q : lift K b (wM1 g ta tb) σ H Q) : tM1 r (lift K b ta) (lift K b tb) σ H Q := by
  obtain ⟨G, ρ, QD, w, q, k⟩ := q
  refine ⟨G, ρ, _, w, q, fun v H1 G1 r1 ρ1 w1 m1 q1 z1 => ?_⟩
  obtain ⟨d1, c1, z1⟩ := lk_get z1
  cases d1 <;> try exact z1.elim
  rename_i a
  refine ⟨⟨a, (q1.rc w1 c1).str⟩, G1, ρ1, _, w1, z1, fun u H2 G2 r2 ρ2 w2 m2 q2 z2 => ?_⟩
  obtain ⟨d2, c2, z2⟩ := lk_get z2
  obtain ⟨z, cz, z2⟩ := lk_get z2
  have rx : Rc K H2 G2 v (.str a) := by rw [(q1.rc w1 c1).str]; exact .inl (.str a)
  refine hr H2 G2 v u (.str a) d2 z Q w2.sub rx (q2.rc w2 c2) cz fun v' H' o => ?_
  obtain ⟨G', w', m', q'⟩ := o.go w2
  exact k v' H' G' _ ρ2 w' ((m1.trans m2).trans m') (q'.back fun a z => (m1.trans m2).dm a z) z2
def gJoin (a : Str) (d : D) : Option Z := match d with
  | .lst l => (strsD l).bind fun ys => if (ys.map (·.length)).sum + ys.length * a.length ≤ 16777216 then some (.d (.str (Txt.join a ys))) else none
  | .tup l => (strsD l).bind fun ys => if (ys.map (·.length)).sum + ys.length * a.length ≤ 16777216 then some (.d (.str (Txt.join a ys))) else none
  | _ => none
def rJoin (K : PySem.W.Frag) : V → List V → Hp → VK → Prop := fun x xs H Q => ∃ a p, ∃ ys : List Str, x = .str a ∧ xs = [.ref p] ∧ (SqL K H p (ys.map V.str) ∨ SqT K H p (ys.map V.str)) ∧ (ys.map (·.length)).sum + ys.length * a.length ≤ 16777216 ∧ Q (.str (Txt.join a ys)) H
theorem o_join {K : PySem.W.Frag} : Mt1 K (rJoin K) gJoin := fun H G x y d e z Q xx rx ry hz k => by
  obtain ⟨a, rfl⟩ : ∃ a, d = .str a := by
    cases d with
    | str a => exact ⟨a, rfl⟩
    | _ => cases hz
  have hz : gJoin a e = some z := hz
  have key : ∀ l, (strsD l).bind (fun ys => if (ys.map (·.length)).sum + ys.length * a.length ≤ 16777216 then some (Z.d (.str (Txt.join a ys))) else none) = some z → ∃ ys, strsD l = some ys ∧ (ys.map (·.length)).sum + ys.length * a.length ≤ 16777216 ∧ z = .d (.str (Txt.join a ys)) := fun l h => by
    cases q : strsD l with
    | none => rw [q] at h; cases h
    | some ys =>
      rw [q] at h
      have h : (if (ys.map (·.length)).sum + ys.length * a.length ≤ 16777216 then some (Z.d (.str (Txt.join a ys))) else none) = some z := h
      by_cases hl : (ys.map (·.length)).sum + ys.length * a.length ≤ 16777216
      · rw [if_pos hl] at h; cases h; exact ⟨ys, rfl, hl, rfl⟩
      · rw [if_neg hl] at h; cases h
  cases e with
  | lst l =>
    obtain ⟨ys, q, hl, rfl⟩ := key l hz
    obtain ⟨p, vs, rfl, h1, r1⟩ := ry.lst xx
    rw [strsD_rp r1 q] at h1
    exact ⟨a, p, ys, rx.str, rfl, .inl (SqL.of h1), hl, k _ H ⟨rfl, .str _⟩⟩
  | tup l =>
    obtain ⟨ys, q, hl, rfl⟩ := key l hz
    obtain ⟨p, vs, rfl, h1, r1, _⟩ := ry.tup xx
    have h2 := h1.1
    rw [strsD_rp r1 q] at h2
    exact ⟨a, p, ys, rx.str, rfl, .inr h2, hl, k _ H ⟨rfl, .str _⟩⟩
  | _ => cases hz
section
variable {X : Cx} {b : Bas} {o e : Expr} {ta tb : TD} {apos pos : Pos}
theorem d_join (ho : PD X b o ta) (he : PD X b e tb) (hs : starEach [e] X.env = [(false, eval e X.env)] := by rfl) (hbase : attributeBase o "join" X.env (eval o X.env) = eval o X.env := by rfl) (hline : (apos.endLine == pos.line) = true := by rfl) :
    PD X b (.Call (.Attribute o "join" apos) [e] [] pos) (wM1 gJoin ta tb) := pe_weak (pe_join ho he hs hbase hline) fun _ _ _ q => m1_go o_join q
end

/-! ### list of a text -/
def gListA : List D → Option Z
  | [.str x] => if x.cps.size ≤ sizeLine then some (.n (.lst (signsD x))) else none
  | l => gListOf l
def rListS : List V → Hp → VK → Prop := fun xs H Q => ∃ x : Str, xs = [.str x] ∧ x.cps.size ≤ sizeLine ∧ ∀ l, H l = none → Q (.ref l) (upd H l (.lst (x.cps.toList.map fun c => V.str ⟨#[c]⟩)))
theorem vals_at : ∀ {xs : List V} {us : List Value}, xs.length = us.length → (∀ (i : Nat) (x : V) (u : Value), xs[i]? = some x → us[i]? = some u → RelV x u) → Vals xs us
  | [], [], _, _ => .nil
  | x :: xs, u :: us, h, k => .cons (k 0 x u rfl rfl) (vals_at (Nat.succ.inj h) fun i y v e1 e2 => k (i + 1) y v e1 e2)
theorem call_listS {X : Cx} (hc : X.calm = true) : CallR X (.type "list") rListS := by
  intro pins s σ H xs us Q I r h
  obtain ⟨x, rfl, hx, q⟩ := h
  obtain ⟨u, rfl, rx⟩ := vals1 r
  obtain ⟨t, rfl⟩ := rx
  refine call_list_str (I.ok.hd hc) x t (fun h' tk acc c hk ho hi => ?_) hx
  have hsz : acc.size = x.cps.size := hi.1
  refine ⟨.ref _, _, I.laid (t' := tk) (o := .lst (x.cps.toList.map fun c => V.str ⟨#[c]⟩)) hk (Nat.le_refl _) ?_, rfl, q _ (I.hok.fresh (Nat.le_refl _))⟩
  refine ⟨by rw [List.length_map, Array.length_toList]; exact hx, acc.toList, c, vals_at (by rw [List.length_map, Array.length_toList, Array.length_toList, hsz]) fun i y v e1 e2 => ?_, ho⟩
  rw [List.getElem?_map] at e1
  have e2 : acc[i]? = some v := by rw [← Array.getElem?_toList]; exact e2
  obtain ⟨c', u', h1, rfl⟩ := hi.2 i v e2
  have h1 : x.cps.toList[i]? = some c' := by rw [Array.getElem?_toList]; exact h1
  rw [h1] at e1
  cases e1
  exact ⟨u', rfl⟩
theorem signs_rp {K : PySem.W.Frag} {G : Hp} : ∀ l : List Nat, RpA K G (l.map fun c => V.str ⟨#[c]⟩) (l.map fun c => D.str ⟨#[c]⟩)
  | [] => .nil
  | c :: l => .cons (.str _) (signs_rp l)
def rListA (K : PySem.W.Frag) : List V → Hp → VK → Prop := fun xs H Q => rListS xs H Q ∨ rListOf K xs H Q
theorem b_listA {K : PySem.W.Frag} : FnB K (rListA K) gListA := fun H G xs ds z Q xx r hz k => by
  unfold gListA at hz
  split at hz
  · rename_i x
    split at hz
    · rename_i hl
      cases hz
      obtain ⟨v, rfl, r'⟩ := pr1 r
      obtain rfl := r'.str
      exact .inl ⟨x, rfl, hl, fun p hp => k _ _ ⟨p, _, rfl, hp, rfl, .lst (signs_rp x.cps.toList)⟩⟩
    · cases hz
  · exact .inr (b_listOf H G xs ds z Q xx r hz k)
theorem call_listA {X : Cx} (hc : X.calm = true) : CallR X (.type "list") (rListA X.K) := fun pins s σ H xs us Q I r h => by
  rcases h with h | h
  · exact call_listS hc pins s σ H xs us Q I r h
  · exact call_list_of pins s σ H xs us Q I r h
end DL

set_option Elab.async false
set_option maxRecDepth 100000
set_option maxHeartbeats 4000000
/-! DL19: xs[::-1] of a list or a tuple; zip of two lists. -/
namespace DL
open PySem PySem.Spec PyProof.Rows L2
section
variable {prog : Program} {w : World} {A : Around} {E : Value → Shared → Prop} {s : Shared}
end
def gRev : D → Option Z
  | .lst l => some (.n (.lst l.reverse))
  | .fzl l => some (.n (.lst l.reverse))
  | .tup l => some (.t l.reverse)
  | _ => none
/-! ### zip of two lists -/
def zipD : List D → List D → List D
  | x :: xs, y :: ys => .wt [x, y] :: zipD xs ys
  | _, _ => []
def wItZ (ks : List Nat) (t : TAD) : TID := fun ρ Q => t ρ fun rs ρ1 => lk (frzs ks rs ρ1) fun p => match p.1 with
  | [x, y] => lk (listD x) fun l => lk (listD y) fun m => Q (zipD l m) p.2
  | _ => False
end DL

set_option Elab.async false
set_option maxRecDepth 100000
set_option maxHeartbeats 4000000
/-! DL20: len(set(xs)), xs a list of texts. -/
namespace DL
open PySem PySem.Spec PyProof.Rows L2
/-- how many others there are (the last one first) -/
def distR : List Str → Nat
  | [] => 0
  | x :: l => if x ∈ l then distR l else distR l + 1
/-- how many others there are -/
def distN (l : List Str) : Nat := distR l.reverse
section
variable {P : Program} {w : World} {A : Around} {E : Value → Shared → Prop} {s : Shared}
end
end DL

set_option Elab.async false
set_option maxRecDepth 100000
set_option maxHeartbeats 4000000
/-! DL21: len(set(xs)) as a reading. -/
namespace DL
open PySem PySem.Spec PyProof.Rows L2
end DL

set_option Elab.async false
set_option maxRecDepth 100000
set_option maxHeartbeats 4000000
/-! DL22: sets of texts as tracked things. -/
namespace DL
open PySem PySem.Spec PyProof.Rows L2
section
variable {X : Cx}
end
end DL

set_option Elab.async false
set_option maxRecDepth 100000
set_option maxHeartbeats 4000000
/-! DL23: {x for target in iter if ..} over texts. -/
namespace DL
open PySem PySem.Spec PyProof.Rows L2 PpSet
section
variable {X : Cx}
end
end DL

set_option Elab.async false
set_option maxRecDepth 100000
set_option maxHeartbeats 4000000
/-! DL24: len({x for ..}) over texts, as a reading. -/
namespace DL
open PySem PySem.Spec PyProof.Rows L2 PpSet
def compT (g : GD) (tt : TTD) (te : TD) (vs : List Nat) : List D → List Str → Rho → (List Str → Rho → Prop) → Prop
  | [], acc, ρ, Q => Q acc ρ
  | d :: ds, acc, ρ, Q => g d ρ fun ρ1 => tt ρ1 fun c ρ2 => if c = true then te ρ2 fun r ρ3 => lk (con ρ3 r) fun e => match e with
    | .str x => acc.length + 1 ≤ 4000 ∧ compT g tt te vs ds (acc ++ [x]) (wipR ρ3 vs) Q
    | _ => False else compT g tt te vs ds acc (wipR ρ2 vs) Q
def wScLen (ks : List Nat) (ti : TID) (g : GD) (tt : TTD) (te : TD) (vs : List Nat) : TD := fun ρ Q => ti ρ fun ds ρ1 => (∀ v ∈ vs, v ∉ ks ∧ ∀ o, ρ1[v]? ≠ some (.own o)) ∧ compT g tt te vs ds [] (wipR ρ1 vs) fun acc ρ2 => Q (.dat (.int (distN acc : Nat))) (unw vs ρ1 ρ2)
end DL

set_option Elab.async false
set_option maxRecDepth 100000
set_option maxHeartbeats 4000000
/-! DL25: len({x for ..}). -/
namespace DL
open PySem PySem.Spec PyProof.Rows L2 PpSet
section
variable {X : Cx}
variable {b : Bas} {ks is : List Nat}
end
end DL

set_option Elab.async false
set_option maxRecDepth 100000
/-! DL26: boot facts; a comprehension within a comprehension. -/
namespace DL
open PySem PySem.Spec PyProof.Rows L2
theorem bt_all : bootBuiltins "all" = some (.builtin "all") := by decide +kernel
end DL

set_option Elab.async false
set_option maxRecDepth 100000
set_option maxHeartbeats 4000000
/-! DL27: the readings of DL17 .. DL25, run from the head. -/
namespace DL
open PySem PySem.Spec PyProof.Rows L2
section
variable {ρ ρ1 ρ2 : Rho} {Q : R → Rho → Prop} {QI : List D → Rho → Prop} {QS : List Str → Rho → Prop} {r : R} {rs : List R} {d e : D} {ds l m : List D} {ks vs : List Nat} {ta tb : TD} {tA : TAD} {t : TTD} {g : GD} {ti : TID} {gm : Str → D → Option Z} {a x : Str} {acc : List Str} {c : Bool} {z : Z}
def kI2 (QI : List D → Rho → Prop) (ρ : Rho) (d : D) : Prop := match d with
  | .str x => QI (signsD x) ρ
  | _ => False
def kI1 (QI : List D → Rho → Prop) (r : R) (ρ : Rho) : Prop := lk (con ρ r) (kI2 QI ρ)
theorem e_itT2 : wItT2 ta ρ QI = ta ρ (kI1 QI) := rfl
theorem k_i1 : kI1 QI r ρ = lk (con ρ r) (kI2 QI ρ) := rfl
theorem k_i2 : kI2 QI ρ (.str x) = QI (signsD x) ρ := rfl
def kM4 (Q : R → Rho → Prop) (ρ : Rho) (z : Z) : Prop := Q z.r ρ
def kM3 (g : Str → D → Option Z) (Q : R → Rho → Prop) (a : Str) (ρ : Rho) (d : D) : Prop := lk (g a d) (kM4 Q ρ)
def kM2 (g : Str → D → Option Z) (Q : R → Rho → Prop) (a : Str) (r : R) (ρ : Rho) : Prop := lk (con ρ r) (kM3 g Q a ρ)
def kM1b (g : Str → D → Option Z) (tb : TD) (Q : R → Rho → Prop) (ρ : Rho) (d : D) : Prop := match d with
  | .str a => tb ρ (kM2 g Q a)
  | _ => False
def kM1 (g : Str → D → Option Z) (tb : TD) (Q : R → Rho → Prop) (r : R) (ρ : Rho) : Prop := lk (con ρ r) (kM1b g tb Q ρ)
theorem e_m1 : wM1 gm ta tb ρ Q = ta ρ (kM1 gm tb Q) := rfl
theorem k_m1 : kM1 gm tb Q r ρ = lk (con ρ r) (kM1b gm tb Q ρ) := rfl
theorem k_m1b : kM1b gm tb Q ρ (.str a) = tb ρ (kM2 gm Q a) := rfl
theorem k_m2 : kM2 gm Q a r ρ = lk (con ρ r) (kM3 gm Q a ρ) := rfl
theorem k_m3 : kM3 gm Q a ρ d = lk (gm a d) (kM4 Q ρ) := rfl
theorem k_m4 : kM4 Q ρ z = Q z.r ρ := rfl
def kZ1 (ks : List Nat) (QI : List D → Rho → Prop) (rs : List R) (ρ : Rho) : Prop := lk (frzs ks rs ρ) fun p => match p.1 with
  | [x, y] => lk (listD x) fun l => lk (listD y) fun m => QI (zipD l m) p.2
  | _ => False
theorem e_itZ : wItZ ks tA ρ QI = tA ρ (kZ1 ks QI) := rfl
theorem k_z1 : kZ1 ks QI rs ρ = lk (frzs ks rs ρ) fun p => match p.1 with
  | [x, y] => lk (listD x) fun l => lk (listD y) fun m => QI (zipD l m) p.2
  | _ => False := rfl
def kScQ (vs : List Nat) (ρ1 : Rho) (Q : R → Rho → Prop) (acc : List Str) (ρ2 : Rho) : Prop := Q (.dat (.int (distN acc : Nat))) (unw vs ρ1 ρ2)
def kSc (ks : List Nat) (g : GD) (tt : TTD) (te : TD) (vs : List Nat) (Q : R → Rho → Prop) (ds : List D) (ρ1 : Rho) : Prop := (∀ v ∈ vs, v ∉ ks ∧ ∀ o, ρ1[v]? ≠ some (.own o)) ∧ compT g tt te vs ds [] (wipR ρ1 vs) (kScQ vs ρ1 Q)
theorem e_scLen : wScLen ks ti g t ta vs ρ Q = ti ρ (kSc ks g t ta vs Q) := rfl
theorem k_sc : kSc ks g t ta vs Q ds ρ = ((∀ v ∈ vs, v ∉ ks ∧ ∀ o, ρ[v]? ≠ some (.own o)) ∧ compT g t ta vs ds [] (wipR ρ vs) (kScQ vs ρ Q)) := rfl
theorem k_scQ : kScQ vs ρ1 Q acc ρ2 = Q (.dat (.int (distN acc : Nat))) (unw vs ρ1 ρ2) := rfl
theorem compT_nil : compT g t ta vs [] acc ρ QS = QS acc ρ := rfl
theorem rev_l : gRev (.lst l) = some (.n (.lst l.reverse)) := rfl
theorem rev_f : gRev (.fzl l) = some (.n (.lst l.reverse)) := rfl
theorem rev_t : gRev (.tup l) = some (.t l.reverse) := rfl
theorem clear_l : gClear l [] = some ([], .non) := rfl
theorem lista_s : gListA [.str x] = if x.cps.size ≤ sizeLine then some (.n (.lst (signsD x))) else none := rfl
theorem max_2 {i j : Int} : gMax [.int i, .int j] = some (.d (.int (if j > i then j else i))) := rfl
theorem min_2 {i j : Int} : gMin [.int i, .int j] = some (.d (.int (if j < i then j else i))) := rfl
end
end DL

set_option Elab.async false
set_option maxRecDepth 100000
set_option maxHeartbeats 4000000
/-! DL28: two names at once that are no plain locals; a text times an int; chains and sets of texts from the head. -/
namespace DL
open PySem PySem.Spec PyProof.Rows L2
section
variable {X : Cx} {b : Bas} {ks : List Nat} {tl : TAD} {pos : Pos}
theorem s_parC {i j : Nat} {x y : Str} {ea eb : Expr} {px py pt : Pos} {kt : Nat} {k2 pt2} (hk : b.kp.map (·.1) = ks) (hc : X.calm = true) (hN : X.N.Nodup) (hi : X.N[i]? = some x) (hj : X.N[j]? = some y) (hx : Loc X.env.scope x) (hy : Loc X.env.scope y)
    (ha : PAD X b [ea, eb] tl)
    (fx : X.fn x = true ∨ X.env.scope.names.lookup x = some .local := by first | exact .inl rfl | exact .inr rfl) (fy : X.fn y = true ∨ X.env.scope.names.lookup y = some .local := by first | exact .inl rfl | exact .inr rfl)
    (hs : swapsWithSole [.Tuple [.Name x px, .Name y py] kt pt] (.Tuple [ea, eb] k2 pt2) pos.line X.env = pure false := by rfl) (hw : swappedStores [.Tuple [.Name x px, .Name y py] kt pt] (.Tuple [ea, eb] k2 pt2) X.env = pure none := by rfl)
    (h1 : (assignEach [.Tuple [.Name x px, .Name y py] kt pt] X.env).map (·.2) = [assign (.Tuple [.Name x px, .Name y py] kt pt) X.env] := by rfl)
    (h2 : (assignEach [.Name x px, .Name y py] X.env).map (·.2) = assign (.Name x px) X.env :: (assignEach [.Name y py] X.env).map (·.2) := by rfl)
    (h3 : (assignEach [.Name y py] X.env).map (·.2) = assign (.Name y py) X.env :: (assignEach [] X.env).map (·.2) := by rfl)
    (hn : (assignEach [.Name x px, .Name y py] X.env).length = 2 := by rfl) (hst : (assignEach [.Name x px, .Name y py] X.env).findIdx? (·.1) = none := by rfl) :
    PSD X b (.Assign [.Tuple [.Name x px, .Name y py] kt pt] (.Tuple [ea, eb] k2 pt2) pos) (wPar ks [i, j] tl) :=
  ps_weak (ps_asg (pe_tup ha) (pg_tup hc (pgs_cons (pg_name hN hi hx fx) (pgs_cons (pg_name hN hj hy fy) pgs_nil h3) h2) hn hst) hs hw h1) fun D σ H q => by
    obtain ⟨G, ρ, DD, w, q, n, _⟩ := q
    refine ⟨G, ρ, _, w, q, fun vs H1 G1 rs ρ1 w1 m1 q1 z => ?_⟩
    obtain ⟨hi', hl, z⟩ := z
    obtain ⟨p, e1, z⟩ := lk_get z
    obtain ⟨rs', ρ2⟩ := p
    obtain ⟨G2, w2, x2, p2, b2, _⟩ := Rel.thins hk w1 q1 e1
    have len : ∀ {vs : List V} {rs : List R}, RvA X.K b σ H H1 G1 ρ1 vs rs → vs.length = rs.length := fun {vs rs} h => by
      induction h with
      | nil => rfl
      | cons _ _ _ ih => exact congrArg (· + 1) ih
    have hv : vs.length = 2 := (len q1).trans hl
    match vs, hv, p2 with
    | [v, u], _, p2 =>
      refine ⟨(by decide : 2 ≤ sizeLine), fun p hp => ⟨p, [v, u], rfl, SqT.of upd_same, rfl, v, [u], rfl, u, [], rfl, rfl, ?_⟩⟩
      exact n _ _ G2 _ (Rel.sets (w2.new hp) (p2.up (w2.newF hp)) b2 fun i hm p hp e => hi' i hm (by rw [← hk, ← e]; exact List.mem_map_of_mem hp)) (m1.ex.trans x2) z
end

/-! ### a text times an int -/
def gMulA : D → D → Option Z
  | .str x, .int n => if x.length ≤ 1000 ∧ -1000 ≤ n ∧ n ≤ 1000 then some (.d (.str (Txt.mul x n))) else none
  | d, e => gMul d e
def rMulS : R2 := fun x y H Q => ∃ a n, x = .str a ∧ y = .int n ∧ a.length ≤ 1000 ∧ -1000 ≤ n ∧ n ≤ 1000 ∧ Q (.str (Txt.mul a n)) H
def rMulB (K : PySem.W.Frag) : R2 := fun x y H Q => rMulS x y H Q ∨ rMulA K x y H Q
theorem op_mulS {X : Cx} : OpR X (binaryOp .Mult) rMulS := by
  intro pins s σ H x y v u Q I rx ry h
  obtain ⟨a, n, rfl, rfl, h1, h2, h3, q⟩ := h
  obtain ⟨t, rfl⟩ := rx
  obtain ⟨t2, rfl⟩ := ry
  refine SB.mul ⟨?_, fun hn _ => ?_, fun hn _ => ?_⟩ fun t' k => ⟨.str _, H, I.tok _, ⟨_, rfl⟩, q⟩
  · have e1 : ¬ n < -(2 ^ 63 : Int) := by omega
    have e2 : ¬ n ≥ 2 ^ 63 := by omega
    rw [decide_eq_false e1, decide_eq_false e2]; rfl
  · intro hc
    have hn0 : 0 < n := by omega
    have : (a.length : Int) ≤ (2 ^ 63 - 1) / n := by
      refine (Int.le_ediv_iff_mul_le hn0).mpr ?_
      have h4 : (a.length : Int) * n ≤ 1000 * 1000 := Int.mul_le_mul (by omega) h3 (by omega) (by decide)
      exact Int.le_trans h4 (by decide)
    omega
  · have h4 : a.length * n.toNat ≤ 1000 * 1000 := Nat.mul_le_mul h1 (by omega)
    have h5 : a.length * n.toNat ≤ 1000000 := h4
    unfold Builtin.Str.tooLong
    have e : sizeLine = 16777216 := rfl
    simp only [decide_eq_false_iff_not, gt_iff_lt]
    omega
theorem op_mulB {X : Cx} : OpR X (binaryOp .Mult) (rMulB X.K) := op_mulS.or op_mulA
theorem o_mulB {K : PySem.W.Frag} : Op2 K (rMulB K) gMulA := fun H G x y d e z Q xx rx ry hz k => by
  unfold gMulA at hz
  split at hz
  · rename_i a n
    by_cases hc : a.length ≤ 1000 ∧ -1000 ≤ n ∧ n ≤ 1000
    · rw [if_pos hc] at hz
      cases hz
      exact .inl ⟨a, n, rx.str, ry.int, hc.1, hc.2.1, hc.2.2, k _ H ⟨rfl, .str _⟩⟩
    · rw [if_neg hc] at hz; cases hz
  · exact .inr (o_mulA H G x y d e z Q xx rx ry hz k)

/-! ### from the head -/
section
variable {ρ ρ1 ρ2 : Rho} {Q : R → Rho → Prop} {QS : List Str → Rho → Prop} {r r1 : R} {d d1 d2 e : D} {ds : List D} {vs : List Nat} {ta tb tc : TD} {t : TTD} {g g' : D → D → Option Z} {gd : GD} {acc : List Str} {c : Bool} {z : Z}
def kCh6 (g' : D → D → Option Z) (d2 : D) (Q : R → Rho → Prop) (ρ : Rho) (d : D) : Prop := lk (g' d2 d) (kE Q ρ)
def kCh5 (g' : D → D → Option Z) (r : R) (Q : R → Rho → Prop) (ρ : Rho) (d2 : D) : Prop := lk (con ρ r) (kCh6 g' d2 Q ρ)
def kCh4 (g' : D → D → Option Z) (r2 : R) (Q : R → Rho → Prop) (r : R) (ρ : Rho) : Prop := lk (con ρ r2) (kCh5 g' r Q ρ)
def kCh3 (g' : D → D → Option Z) (tc : TD) (r2 : R) (Q : R → Rho → Prop) (ρ : Rho) : Z → Prop
  | .d (.bl c) => if c = true then tc ρ (kCh4 g' r2 Q) else Q (.dat (.bl false)) ρ
  | _ => False
def kCh2 (g g' : D → D → Option Z) (tc : TD) (r2 : R) (Q : R → Rho → Prop) (ρ : Rho) (d1 d2 : D) : Prop := lk (g d1 d2) (kCh3 g' tc r2 Q ρ)
def kCh1 (g g' : D → D → Option Z) (tc : TD) (r2 : R) (Q : R → Rho → Prop) (ρ : Rho) (d1 : D) : Prop := lk (con ρ r2) (kCh2 g g' tc r2 Q ρ d1)
def kCh0 (g g' : D → D → Option Z) (tc : TD) (r1 : R) (Q : R → Rho → Prop) (r2 : R) (ρ : Rho) : Prop := lk (con ρ r1) (kCh1 g g' tc r2 Q ρ)
def kCh (g g' : D → D → Option Z) (tb tc : TD) (Q : R → Rho → Prop) (r1 : R) (ρ : Rho) : Prop := tb ρ (kCh0 g g' tc r1 Q)
theorem e_chain : wChain g g' ta tb tc ρ Q = ta ρ (kCh g g' tb tc Q) := by
  unfold wChain
  congr 1
theorem k_ch : kCh g g' tb tc Q r1 ρ = tb ρ (kCh0 g g' tc r1 Q) := rfl
theorem k_ch0 {r2 : R} : kCh0 g g' tc r1 Q r2 ρ = lk (con ρ r1) (kCh1 g g' tc r2 Q ρ) := rfl
theorem k_ch1 : kCh1 g g' tc r Q ρ d = lk (con ρ r) (kCh2 g g' tc r Q ρ d) := rfl
theorem k_ch2 : kCh2 g g' tc r Q ρ d e = lk (g d e) (kCh3 g' tc r Q ρ) := rfl
theorem k_ch3 : kCh3 g' tc r Q ρ (.d (.bl c)) = if c = true then tc ρ (kCh4 g' r Q) else Q (.dat (.bl false)) ρ := rfl
theorem k_ch4 {r2 : R} : kCh4 g' r2 Q r ρ = lk (con ρ r2) (kCh5 g' r Q ρ) := rfl
theorem k_ch5 : kCh5 g' r Q ρ d = lk (con ρ r) (kCh6 g' d Q ρ) := rfl
theorem k_ch6 : kCh6 g' d Q ρ e = lk (g' d e) (kE Q ρ) := rfl
def kT3 (g : GD) (tt : TTD) (te : TD) (vs : List Nat) (ds : List D) (acc : List Str) (Q : List Str → Rho → Prop) (ρ : Rho) : D → Prop
  | .str x => acc.length + 1 ≤ 4000 ∧ compT g tt te vs ds (acc ++ [x]) (wipR ρ vs) Q
  | _ => False
def kT2b (g : GD) (tt : TTD) (te : TD) (vs : List Nat) (ds : List D) (acc : List Str) (Q : List Str → Rho → Prop) (r : R) (ρ : Rho) : Prop := lk (con ρ r) (kT3 g tt te vs ds acc Q ρ)
def kT2 (g : GD) (tt : TTD) (te : TD) (vs : List Nat) (ds : List D) (acc : List Str) (Q : List Str → Rho → Prop) (c : Bool) (ρ : Rho) : Prop := if c = true then te ρ (kT2b g tt te vs ds acc Q) else compT g tt te vs ds acc (wipR ρ vs) Q
def kT1 (g : GD) (tt : TTD) (te : TD) (vs : List Nat) (ds : List D) (acc : List Str) (Q : List Str → Rho → Prop) (ρ : Rho) : Prop := tt ρ (kT2 g tt te vs ds acc Q)
theorem compT_cons : compT gd t ta vs (d :: ds) acc ρ QS = gd d ρ (kT1 gd t ta vs ds acc QS) := by
  conv => lhs; unfold compT
  congr 1
theorem k_t1 : kT1 gd t ta vs ds acc QS ρ = t ρ (kT2 gd t ta vs ds acc QS) := rfl
theorem k_t2 : kT2 gd t ta vs ds acc QS c ρ = if c = true then ta ρ (kT2b gd t ta vs ds acc QS) else compT gd t ta vs ds acc (wipR ρ vs) QS := rfl
theorem k_t2b : kT2b gd t ta vs ds acc QS r ρ = lk (con ρ r) (kT3 gd t ta vs ds acc QS ρ) := rfl
theorem k_t3 {x : Str} : kT3 gd t ta vs ds acc QS ρ (.str x) = (acc.length + 1 ≤ 4000 ∧ compT gd t ta vs ds (acc ++ [x]) (wipR ρ vs) QS) := rfl
theorem mulA_si {x : Str} {n : Int} : gMulA (.str x) (.int n) = if x.length ≤ 1000 ∧ -1000 ≤ n ∧ n ≤ 1000 then some (.d (.str (Txt.mul x n))) else none := rfl
def inS (y x : Str) : Bool := !(Builtin.Str.occurrences y x 0 y.length 1).isEmpty
theorem inA_s {neg : Bool} {x y : Str} : gInA neg (.str x) (.str y) = some (.d (.bl (neg != inS y x))) := rfl
theorem ix_s {x : Str} {i : Int} : gIx (.str x) (.int i) = if x.length ≤ sizeLine then (atI x.cps.toList i).map fun c => .d (.str ⟨#[c]⟩) else none := rfl
end
end DL

set_option Elab.async false
set_option maxRecDepth 100000
set_option maxHeartbeats 4000000
/-! DL29: enumerate of a tuple, of a list. -/
namespace DL
open PySem PySem.Spec PyProof.Rows L2
section
variable {prog : Program} {w : World} {A : Around} {E : Value → Shared → Prop} {s : Shared}
end
def wItEA (ks : List Nat) (ta : TAD) : TID := fun ρ Q => ta ρ fun rs ρ1 => lk (frzs ks rs ρ1) fun p => match p.1 with
  | [x] => lk (walkD x) fun l => Q (enumD 0 l) p.2
  | _ => False
section
variable {ρ : Rho} {QI : List D → Rho → Prop} {rs : List R} {d : D} {ks : List Nat} {tA : TAD}
def kEa2 (Q : List D → Rho → Prop) (p : List D × Rho) : Prop := match p.1 with
  | [x] => lk (walkD x) (kEn3 Q p.2)
  | _ => False
def kEa1 (ks : List Nat) (Q : List D → Rho → Prop) (rs : List R) (ρ : Rho) : Prop := lk (frzs ks rs ρ) (kEa2 Q)
theorem e_itEA : wItEA ks tA ρ QI = tA ρ (kEa1 ks QI) := by
  unfold wItEA
  congr 1
theorem k_ea1 : kEa1 ks QI rs ρ = lk (frzs ks rs ρ) (kEa2 QI) := rfl
theorem k_ea2 : kEa2 QI ([d], ρ) = lk (walkD d) (kEn3 QI ρ) := rfl
end
end DL

set_option Elab.async false
set_option maxRecDepth 100000
set_option maxHeartbeats 4000000
/-! DL30: == of flat lists and tuples. -/
namespace DL
open PySem PySem.Spec PyProof.Rows L2
/-- items that are plain: numbers, texts, bools -/
structure Flat {α : Type} (g : α → D) (f : α → PyData) (P : α → Prop) : Prop where
  py : ∀ a, pyD (g a) = some (f a)
  can : ∀ a, P a → (f a).canLay0 = true
  dep : ∀ a, (f a).depth = 0
  eqv : ∀ a b, PyData.eqv (f a) (f b) = true ↔ a = b
section
variable {α : Type} {g : α → D} {f : α → PyData} {P : α → Prop} (F : Flat g f P)
include F
theorem Flat.pys : ∀ l : List α, pyDs (l.map g) = some (l.map f)
  | [] => rfl
  | a :: l => by
    rw [List.map_cons]
    unfold pyDs
    rw [F.py, Flat.pys l]
    rfl
theorem Flat.cans : ∀ l : List α, (∀ a ∈ l, P a) → PyData.canLayAll0 (l.map f) = true
  | [], _ => rfl
  | a :: l, h => by
    rw [List.map_cons]
    unfold PyData.canLayAll0
    rw [F.can a (h a List.mem_cons_self), Flat.cans l fun x hx => h x (List.mem_cons_of_mem _ hx)]
    rfl
theorem Flat.deps : ∀ l : List α, PyData.depthAll (l.map f) = 0
  | [] => rfl
  | a :: l => by
    rw [List.map_cons]
    show max (f a).depth (PyData.depthAll (l.map f)) = 0
    rw [F.dep, Flat.deps l]; rfl
theorem Flat.eqvs : ∀ l m : List α, PyData.eqvAll (l.map f) (m.map f) = true ↔ l = m
  | [], [] => by simp [PyData.eqvAll]
  | [], b :: m => by simp [PyData.eqvAll]
  | a :: l, [] => by simp [PyData.eqvAll]
  | a :: l, b :: m => by
    rw [List.map_cons, List.map_cons, PyData.eqvAll, Bool.and_eq_true, F.eqv, Flat.eqvs l m]
    constructor
    · rintro ⟨rfl, rfl⟩; rfl
    · intro h; cases h; exact ⟨rfl, rfl⟩
theorem Flat.deepL {l m : List α} (hl : ∀ a ∈ l, P a) (hm : ∀ a ∈ m, P a) : deepEq (.lst (l.map g)) (.lst (m.map g)) = some (PyData.eqvAll (l.map f) (m.map f)) := by
  have e : ∀ l : List α, pyD (.lst (l.map g)) = some (.list (l.map f)) := fun l => by unfold pyD; rw [F.pys]; rfl
  have c : ∀ l : List α, (∀ a ∈ l, P a) → (PyData.list (l.map f)).canLay0 = true := fun l h => by unfold PyData.canLay0; exact F.cans l h
  have dd : ∀ l : List α, (PyData.list (l.map f)).depth = 1 := fun l => by show PyData.depthAll (l.map f) + 1 = 1; rw [F.deps]
  unfold deepEq
  rw [e, e, Option.bind_some, Option.bind_some, if_pos ⟨c l hl, c m hm, by rw [dd, dd]; decide⟩, PyData.eqv]
theorem Flat.deepT {l m : List α} (hl : ∀ a ∈ l, P a) (hm : ∀ a ∈ m, P a) : deepEq (.tup (l.map g)) (.tup (m.map g)) = some (PyData.eqvAll (l.map f) (m.map f)) := by
  have e : ∀ l : List α, pyD (.tup (l.map g)) = some (.tuple (l.map f)) := fun l => by unfold pyD; rw [F.pys]; rfl
  have c : ∀ l : List α, (∀ a ∈ l, P a) → (PyData.tuple (l.map f)).canLay0 = true := fun l h => by unfold PyData.canLay0; exact F.cans l h
  have dd : ∀ l : List α, (PyData.tuple (l.map f)).depth = 1 := fun l => by show PyData.depthAll (l.map f) + 1 = 1; rw [F.deps]
  unfold deepEq
  rw [e, e, Option.bind_some, Option.bind_some, if_pos ⟨c l hl, c m hm, by rw [dd, dd]; decide⟩, PyData.eqv]
theorem Flat.dec [DecidableEq α] {l m : List α} : PyData.eqvAll (l.map f) (m.map f) = decide (l = m) := by
  by_cases h : l = m
  · rw [decide_eq_true h]; exact (F.eqvs l m).mpr h
  · rw [decide_eq_false h]; exact Bool.eq_false_iff.mpr fun z => h ((F.eqvs l m).mp z)
theorem Flat.lists [DecidableEq α] {neg : Bool} {l m : List α} (hl : ∀ a ∈ l, P a) (hm : ∀ a ∈ m, P a) : gEqA neg (.lst (l.map g)) (.lst (m.map g)) = some (.d (.bl (neg != decide (l = m)))) := by
  refine eqA_eq ?_
  unfold gEqB quick
  dsimp only
  rw [List.length_map, List.length_map]
  by_cases h : l.length = m.length
  · rw [if_pos h]
    dsimp only
    rw [F.deepL hl hm, F.dec]
  · rw [if_neg h]
    have : ¬ l = m := fun z => h (by rw [z])
    rw [decide_eq_false this]
theorem Flat.tuples [DecidableEq α] {neg : Bool} {l m : List α} (hl : ∀ a ∈ l, P a) (hm : ∀ a ∈ m, P a) : gEqA neg (.tup (l.map g)) (.tup (m.map g)) = some (.d (.bl (neg != decide (l = m)))) := by
  refine eqA_eq ?_
  unfold gEqB quick
  dsimp only
  by_cases h : l.map g = [] ∨ m.map g = []
  · rw [if_pos h]
    dsimp only
    rw [List.length_map, List.length_map]
    have e : (l.length == m.length) = decide (l = m) := by
      rcases h with h | h
      · have := List.map_eq_nil_iff.mp h
        subst this
        cases m <;> simp
      · have := List.map_eq_nil_iff.mp h
        subst this
        cases l <;> simp
    rw [e]
  · rw [if_neg h]
    dsimp only
    rw [F.deepT hl hm, F.dec]
end
theorem flat_bl : Flat D.bl PyData.bool fun _ => True := ⟨fun _ => rfl, fun _ _ => rfl, fun _ => rfl, fun a b => by simp [PyData.eqv]⟩
theorem eqA_bls {neg : Bool} {l m : List Bool} : gEqA neg (.lst (l.map .bl)) (.lst (m.map .bl)) = some (.d (.bl (neg != decide (l = m)))) := flat_bl.lists (fun _ _ => True.intro) fun _ _ => True.intro
end DL

set_option Elab.async false
set_option maxRecDepth 100000
set_option maxHeartbeats 4000000
/-! DL31: calls with two objects by reference. -/
namespace DL
open PySem PySem.Spec PyProof.Rows L2
section
variable {K : PySem.W.Frag} {b : Bas} {σ : L2.St} {H G H' G' : Hp} {ρ : Rho}
end
/-- f(x, y), the objects of the names x and y by reference -/
def kRR4 (i j : Nat) (ρ : Rho) (Q : R → Rho → Prop) (r : R) : List Sl → Prop
  | [.own o', .own u'] => Q r ((ρ.set i (.own o')).set j (.own u'))
  | _ => False
def kRR3 (sp : DSp) (i j : Nat) (ρ : Rho) (Q : R → Rho → Prop) (o : Own) : Option Sl → Prop
  | some (.own u) => sp [.own o, .own u] (kRR4 i j ρ Q) noX
  | _ => False
def kRR2 (sp : DSp) (i j : Nat) (ρ : Rho) (Q : R → Rho → Prop) : Option Sl → Prop
  | some (.own o) => kRR3 sp i j ρ Q o ρ[j]?
  | _ => False
def kRR1 (sp : DSp) (Q : R → Rho → Prop) (rs : List R) (ρ : Rho) : Prop := match rs with
  | [.bor i, .bor j] => i ≠ j ∧ kRR2 sp i j ρ Q ρ[i]?
  | _ => False
def wCallRR (sp : DSp) (t : TAD) : TD := fun ρ Q => t ρ (kRR1 sp Q)
section
variable {sp : DSp} {tA : TAD} {ρ : Rho} {Q : R → Rho → Prop} {i j : Nat} {o u : Own} {r : R}
theorem e_callRR : wCallRR sp tA ρ Q = tA ρ (kRR1 sp Q) := rfl
theorem k_rr1 : kRR1 sp Q [.bor i, .bor j] ρ = (i ≠ j ∧ kRR2 sp i j ρ Q ρ[i]?) := rfl
theorem k_rr2 : kRR2 sp i j ρ Q (some (.own o)) = kRR3 sp i j ρ Q o ρ[j]? := rfl
theorem k_rr3 : kRR3 sp i j ρ Q o (some (.own u)) = sp [.own o, .own u] (kRR4 i j ρ Q) noX := rfl
theorem k_rr4 : kRR4 i j ρ Q r [.own o, .own u] = Q r ((ρ.set i (.own o)).set j (.own u)) := rfl
end
section
variable {K : PySem.W.Frag} {b : Bas} {sp : DSp} {t : TAD} {E : XK} {σ : L2.St} {H : Hp} {Q : VK}
end
section
variable {X : Cx} {b : Bas} {k : Nat} {sp : DSp} {x : Str} {p pos : Pos} {e : Expr} {es : List Expr} {t : TAD}
end
end DL

set_option Elab.async false
set_option maxRecDepth 100000
set_option maxHeartbeats 4000000
/-! DL32: objects of classes: made, their fields read and set; what is never come to; isinstance of a tuple of types; sum. -/
namespace DL
open PySem PySem.Spec PyProof.Rows L2
theorem RpF.gone {K : PySem.W.Frag} {G : Hp} {f : Str} : ∀ {fs : List (Str × V)} {l : List (Str × D)}, RpF K G fs l → l.lookup f = none → fs.lookup f = none
  | _, _, .nil, e => rfl
  | (g, x) :: fs, (_, y) :: l, .cons h1 h2, e => by
    rw [List.lookup_cons] at e ⊢
    cases q : f == g with
    | true => rw [q] at e; cases e
    | false => rw [q] at e; exact RpF.gone h2 e
def kFl3 (Q : R → Rho → Prop) (ρ : Rho) (d : D) : Prop := Q (.dat d) ρ
def kFl2 (f : Str) (Q : R → Rho → Prop) (ρ : Rho) (l : List (Str × D)) : Prop := lk (l.lookup f) (kFl3 Q ρ)
def kFl1 (C : Addr) (f : Str) (Q : R → Rho → Prop) (r : R) (ρ : Rho) : Prop := lk ((con ρ r).bind (insD C)) (kFl2 f Q ρ)
def qSf (C : Addr) (f : Str) (i : Nat) (d : D) (ρ : Rho) (DD : EndsD) : Option Sl → Prop
  | some (.own (.ins C' l)) => C' = C ∧ l.length < 1000 ∧ DD.nx (ρ.set i (.own (.ins C (putD f d l))))
  | _ => False
def kSf2 (C : Addr) (f : Str) (i : Nat) (DD : EndsD) (p : D × Rho) : Prop := qSf C f i p.1 p.2 DD p.2[i]?
def kSf1 (ks : List Nat) (C : Addr) (f : Str) (i : Nat) (DD : EndsD) (r : R) (ρ : Rho) : Prop := lk (frz ks r ρ) (kSf2 C f i DD)
/-- what is never come to -/
def wNever : SD := fun _ _ => False
/-- C(..) -/
def kMk3 (Q : R → Rho → Prop) (ρ : Rho) (r : R) : List Sl → Prop
  | .own o :: _ => r = .dat .non ∧ Q (.own o) ρ
  | _ => False
def kMk2 (C : Addr) (sp : DSp) (Q : R → Rho → Prop) (p : List D × Rho) : Prop := sp (.own (.ins C []) :: p.1.map .dat) (kMk3 Q p.2) noX
def kMk1 (ks : List Nat) (C : Addr) (sp : DSp) (Q : R → Rho → Prop) (rs : List R) (ρ : Rho) : Prop := lk (frzs ks rs ρ) (kMk2 C sp Q)
def wMake (ks : List Nat) (C : Addr) (sp : DSp) (t : TAD) : TD := fun ρ Q => t ρ (kMk1 ks C sp Q)
structure MkP (P : Program) (w : World) (K : PySem.W.Frag) (mg : Str → Option Value) (base : Heap) (k : Nat) (x : Str) (C : Addr) (sp : DSp) : Prop where
  ex : ∃ (f : Addr) (fd : FuncData) (ps : List Str), Mk K C f ∧ FnG P w K mg base CX0 k f fd ps (toSp K sp) ∧ mg x = some (.ref C) ∧ Binds K fd ps []
section
variable {X : Cx} {CX : CXT} {k : Nat} {f C : Addr} {fd : FuncData} {ps : List Str} {sp : Sp} {E : XK} {x : Str} {p pos : Pos} {e : Expr} {es : List Expr} {t : TA}
end
section
variable {K : PySem.W.Frag} {b : Bas} {ks : List Nat} {sp : DSp} {t : TAD} {E : XK} {σ : L2.St} {H : Hp} {Q : VK} {C : Addr}
end
section
variable {X : Cx} {b : Bas} {k : Nat} {sp : DSp} {x : Str} {p pos : Pos} {e : Expr} {es : List Expr} {t : TAD} {ks : List Nat} {C : Addr}
end
section
variable {ρ : Rho} {Q : R → Rho → Prop} {r : R} {rs : List R} {d : D} {ds : List D} {ks : List Nat} {C C' : Addr} {f : Str} {l : List (Str × D)} {ta : TD} {tA : TAD} {DD : EndsD} {i : Nat} {sp : DSp} {o : Own} {a : List Sl}
theorem e_fld : wFld C f ta ρ Q = ta ρ (kFl1 C f Q) := rfl
theorem k_fl1 : kFl1 C f Q r ρ = lk ((con ρ r).bind (insD C)) (kFl2 f Q ρ) := rfl
theorem k_fl2 : kFl2 f Q ρ l = lk (l.lookup f) (kFl3 Q ρ) := rfl
theorem k_fl3 : kFl3 Q ρ d = Q (.dat d) ρ := rfl
theorem insD_i : insD C (.ins C l) = some l := by unfold insD; simp
theorem e_setF : wSetF ks i C f ta DD ρ = ta ρ (kSf1 ks C f i DD) := by
  unfold wSetF
  congr 1
theorem k_sf1 : kSf1 ks C f i DD r ρ = lk (frz ks r ρ) (kSf2 C f i DD) := rfl
theorem k_sf2 : kSf2 C f i DD (d, ρ) = qSf C f i d ρ DD ρ[i]? := rfl
theorem q_sf : qSf C f i d ρ DD (some (.own (.ins C l))) = (l.length < 1000 ∧ DD.nx (ρ.set i (.own (.ins C (putD f d l))))) := propext ⟨fun h => h.2, fun h => ⟨rfl, h⟩⟩
theorem e_make : wMake ks C sp tA ρ Q = tA ρ (kMk1 ks C sp Q) := rfl
theorem k_mk1 : kMk1 ks C sp Q rs ρ = lk (frzs ks rs ρ) (kMk2 C sp Q) := rfl
theorem k_mk2 : kMk2 C sp Q (ds, ρ) = sp (.own (.ins C []) :: ds.map .dat) (kMk3 Q ρ) noX := rfl
theorem k_mk3 : kMk3 Q ρ r (.own o :: a) = (r = .dat .non ∧ Q (.own o) ρ) := rfl
theorem e_never : wNever DD ρ = False := rfl
end

/-! ### isinstance of two types; sum -/
section
variable {X : Cx} {b : Bas} {e : Expr} {ta : TD} {x y z : Str} {T1 T2 : String} {p p1 p2 p3 pos : Pos} {kk : Nat}
end
end DL

set_option Elab.async false
set_option maxRecDepth 100000
set_option maxHeartbeats 4000000
/-! DL33: == and != by an own __eq__. -/
namespace DL
open PySem PySem.Builtin PySem.W
section
variable {prog : Program} {w : World} {A : Around} {E : Value → Shared → Prop} {s : Shared} {K : Frag} {x C f : Addr} {y b : Value} {ox : Obj} {od : Option Obj}
end
end DL

namespace DL
open PySem PySem.Spec PyProof.Rows L2
/-! ### == and != of two objects of the class at C -/
structure CmpC (K : PySem.W.Frag) (C f : Addr) : Prop where
  eq_ : PySem.W.findIn K (.ref C) "__eq__" = some (some (.ref f))
  fn : PySem.W.isFn K (.ref f) = true
  ne_ : PySem.W.findIn K (.ref C) "__ne__" = some (some (.builtin "object.__ne__"))
  ob : PySem.W.mroIn K C (.type "object") = some true
section
variable {X : Cx} {CX : CXT} {k : Nat} {f C : Addr} {fd : FuncData} {ps : List Str} {sp : Sp} {E : XK}
end
def kEo3 (neg : Bool) (Q : R → Rho → Prop) (ρ : Rho) (r : R) : List Sl → Prop := fun _ => match r with
  | .dat (.bl c) => Q (.dat (.bl (neg != c))) ρ
  | _ => False
def kEo2 (neg : Bool) (C : Addr) (sp : DSp) (Q : R → Rho → Prop) (p : List D × Rho) : Prop := match p.1 with
  | [.ins C1 l1, .ins C2 l2] => C1 = C ∧ C2 = C ∧ sp [.dat (.ins C1 l1), .dat (.ins C2 l2)] (kEo3 neg Q p.2) noX
  | _ => False
def kEo1 (ks : List Nat) (neg : Bool) (C : Addr) (sp : DSp) (Q : R → Rho → Prop) (r1 r2 : R) (ρ : Rho) : Prop := lk (frzs ks [r1, r2] ρ) (kEo2 neg C sp Q)
def kEo0 (ks : List Nat) (neg : Bool) (C : Addr) (sp : DSp) (tb : TD) (Q : R → Rho → Prop) (r1 : R) (ρ : Rho) : Prop := tb ρ (kEo1 ks neg C sp Q r1)
/-- a == b, a != b: by the class's own == -/
def wEqO (ks : List Nat) (neg : Bool) (C : Addr) (sp : DSp) (ta tb : TD) : TD := fun ρ Q => ta ρ (kEo0 ks neg C sp tb Q)
section
variable {X : Cx} {b : Bas} {k : Nat} {sp : DSp} {pos : Pos} {ea eb : Expr} {ta tb : TD} {ks : List Nat} {C : Addr}
end
section
variable {ρ : Rho} {Q : R → Rho → Prop} {r r2 : R} {ks : List Nat} {neg c : Bool} {C : Addr} {l1 l2 : List (Str × D)} {ta tb : TD} {sp : DSp} {a : List Sl}
theorem e_eqO : wEqO ks neg C sp ta tb ρ Q = ta ρ (kEo0 ks neg C sp tb Q) := rfl
theorem k_eo0 : kEo0 ks neg C sp tb Q r ρ = tb ρ (kEo1 ks neg C sp Q r) := rfl
theorem k_eo1 : kEo1 ks neg C sp Q r r2 ρ = lk (frzs ks [r, r2] ρ) (kEo2 neg C sp Q) := rfl
theorem k_eo2 : kEo2 neg C sp Q ([.ins C l1, .ins C l2], ρ) = sp [.dat (.ins C l1), .dat (.ins C l2)] (kEo3 neg Q ρ) noX := propext ⟨fun h => h.2.2, fun h => ⟨rfl, rfl, h⟩⟩
theorem k_eo3 : kEo3 neg Q ρ (.dat (.bl c)) a = Q (.dat (.bl (neg != c))) ρ := rfl
end
end DL

set_option Elab.async false
set_option maxRecDepth 100000
set_option maxHeartbeats 4000000
/-! DL34: isinstance of an own class; a static method; a dict of the module. -/
namespace DL
open PySem PySem.Spec PyProof.Rows L2
/-! ### isinstance(x, C) -/
structure IsC (K : PySem.W.Frag) (C : Addr) : Prop where
  ha : PySem.W.findIn K (.ref C) "__class__" = some (some (.builtin "object.__class__"))
  hn : PySem.W.specialIn K (.builtin "object.__class__") "__get__" = some (some (.builtin "getset_descriptor.__get__"))
  ht : PySem.W.takesIn K (.builtin "object.__class__") = some true
  hm : PySem.W.mroIn K C (.type "object") = some true
  ok : ((PySem.W.clsIn K C).isSome && PySem.W.typeIn K (.ref C) == some (.type "type")) = true
  n1 : PySem.W.subIn K (.type "NoneType") (.ref C) = some false
  n2 : PySem.W.subIn K (.type "bool") (.ref C) = some false
  n3 : PySem.W.subIn K (.type "int") (.ref C) = some false
  n4 : PySem.W.subIn K (.type "str") (.ref C) = some false
  n5 : PySem.W.subIn K (.type "list") (.ref C) = some false
  n6 : PySem.W.subIn K (.type "tuple") (.ref C) = some false
  n7 : PySem.W.subIn K (.type "dict") (.ref C) = some false
theorem Rc.cls {K : PySem.W.Frag} {H G : Hp} {x : V} {C : Addr} (r : Rc K H G x (.cls C)) : x = .ref C := by
  rcases r with r | ⟨a, h, o, _, _, _, z⟩
  · cases r; rfl
  · cases o <;> cases z
section
variable {X : Cx} {b : Bas} {x : Str} {pos : Pos} {C : Addr}
theorem d_globC (hg : Gl X x) (hm : X.mg x = some (.ref C)) (hd : (x == ("__debug__" : Str)) = false := by decide) : PD X b (.Name x pos) (wC (.cls C)) := d_c (.cls C) (pe_glob (v := .ref C) hg hm rfl hd)
end

/-! ### C.m(..), a static method -/
section
variable {X : Cx} {CX : CXT} {k : Nat} {f C pr : Addr} {mc : Value} {fd : FuncData} {ps : List Str} {sp : Sp} {E : XK} {x m : Str} {p apos pos : Pos} {e : Expr} {es : List Expr} {t : TA} {pl : Sem Bool}
end
section
variable {X : Cx} {b : Bas} {k : Nat} {sp : DSp} {x m : Str} {p apos pos : Pos} {e : Expr} {es : List Expr} {t : TAD} {ks : List Nat} {pl : Sem Bool}
end

/-! ### a dict of the module's top, with texts as keys and whole numbers at them -/
def TabG (K : PySem.W.Frag) (d : Addr) : List (Str × Option Int) → Prop
  | [] => True
  | (z, none) :: r => PySem.W.nsIn K d z = some none ∧ TabG K d r
  | (z, some i) :: r => (∃ t, PySem.W.nsIn K d z = some (some (.int i t))) ∧ TabG K d r
theorem TabG.at {K : PySem.W.Frag} {d : Addr} : ∀ {tab : List (Str × Option Int)} {z : Str} {r : Option Int}, TabG K d tab → tab.lookup z = some r → ∃ u : Option Value, PySem.W.nsIn K d z = some u ∧ (match r with
    | none => u = none
    | some i => ∃ t, u = some (.int i t))
  | [], z, r, _, e => by cases e
  | (y, o) :: tab, z, r, h, e => by
    rw [List.lookup_cons] at e
    cases q : z == y with
    | true =>
      rw [q] at e
      cases e
      obtain rfl := eq_of_beq q
      cases o with
      | none => exact ⟨none, h.1, rfl⟩
      | some i => obtain ⟨⟨t, h1⟩, _⟩ := h; exact ⟨some (.int i t), h1, t, rfl⟩
    | false =>
      rw [q] at e
      cases o with
      | none => exact TabG.at h.2 e
      | some i => exact TabG.at h.2 e
section
variable {X : Cx} {a : Addr} {tab : List (Str × Option Int)}
end

/-! ### xs.count(i), xs a list of whole numbers, its own name's or data; str(i) -/
def isLst : Option D → Prop
  | some (.lst _) => True
  | _ => False
def gCntD : D → List D → Option Z
  | .lst l, [.int i] => (intsD l).map fun ns => .d (.int (ns.count i : Nat))
  | _, _ => none
def kCn3 (Q : R → Rho → Prop) (ρ : Rho) (z : Z) : Prop := Q z.r ρ
def kCn2 (Q : R → Rho → Prop) (ρ : Rho) (rs : List R) (d1 : D) : Prop := lk ((conL ρ rs).bind (gCntD d1)) (kCn3 Q ρ)
def kCn1 (Q : R → Rho → Prop) (r1 : R) (rs : List R) (ρ : Rho) : Prop := lk (con ρ r1) (kCn2 Q ρ rs)
def kCn0 (tA : TAD) (Q : R → Rho → Prop) (r1 : R) (ρ : Rho) : Prop := isLst (con ρ r1) ∧ tA ρ (kCn1 Q r1)
def wCnt (ta : TD) (tA : TAD) : TD := fun ρ Q => ta ρ (kCn0 tA Q)
section
variable {X : Cx} {b : Bas} {o e : Expr} {es : List Expr} {ta : TD} {t : TAD} {apos cpos : Pos}
end
def gStrI0 : List D → Option Z
  | [.int i] => if i.natAbs.log2 < 1920 then some (.d (.str (toString i))) else none
  | _ => none
theorem gStrI_ex : ∃ f : List D → Option Z, f = gStrI0 := ⟨_, rfl⟩
/-- str(i): not to be unfolded by the kernel -/
noncomputable def gStrI : List D → Option Z := Classical.choose gStrI_ex
section
variable {ρ : Rho} {Q : R → Rho → Prop} {r : R} {rs : List R} {d : D} {z : Z} {ta : TD} {tA : TAD} {l : List D} {i : Int}
theorem e_cnt : wCnt ta tA ρ Q = ta ρ (kCn0 tA Q) := rfl
theorem k_cn0 : kCn0 tA Q r ρ = (isLst (con ρ r) ∧ tA ρ (kCn1 Q r)) := rfl
theorem k_cn1 : kCn1 Q r rs ρ = lk (con ρ r) (kCn2 Q ρ rs) := rfl
theorem k_cn2 : kCn2 Q ρ rs d = lk ((conL ρ rs).bind (gCntD d)) (kCn3 Q ρ) := rfl
theorem k_cn3 : kCn3 Q ρ z = Q z.r ρ := rfl
theorem isLst_l : isLst (some (.lst l)) = True := rfl
theorem cntD_i : gCntD (.lst l) [.int i] = (intsD l).map fun ns => .d (.int (ns.count i : Nat)) := rfl
end
end DL

set_option Elab.async false
set_option maxRecDepth 100000
set_option maxHeartbeats 4000000
/-! DL35: operators of two objects of one class, by the class's own defs. -/
namespace DL
open PySem PySem.Spec PyProof.Rows L2
section
variable {X : Cx} {CX : CXT} {k : Nat} {f C : Addr} {fd : FuncData} {ps : List Str} {sp : Sp} {E : XK}
end
def kBo2 (C : Addr) (sp : DSp) (Q : R → Rho → Prop) (p : List D × Rho) : Prop := match p.1 with
  | [.ins C1 l1, .ins C2 l2] => C1 = C ∧ C2 = C ∧ sp [.dat (.ins C1 l1), .dat (.ins C2 l2)] (kRetQ Q p.2) noX
  | _ => False
def kBo1 (ks : List Nat) (C : Addr) (sp : DSp) (Q : R → Rho → Prop) (r1 r2 : R) (ρ : Rho) : Prop := lk (frzs ks [r1, r2] ρ) (kBo2 C sp Q)
def kBo0 (ks : List Nat) (C : Addr) (sp : DSp) (tb : TD) (Q : R → Rho → Prop) (r1 : R) (ρ : Rho) : Prop := tb ρ (kBo1 ks C sp Q r1)
/-- a + b and its like, by the class's own def -/
def wBinO (ks : List Nat) (C : Addr) (sp : DSp) (ta tb : TD) : TD := fun ρ Q => ta ρ (kBo0 ks C sp tb Q)
section
variable {X : Cx} {b : Bas} {k : Nat} {sp : DSp} {pos : Pos} {ea eb : Expr} {ta tb : TD} {ks : List Nat} {C : Addr}
end
section
variable {ρ : Rho} {Q : R → Rho → Prop} {r r2 : R} {ks : List Nat} {C : Addr} {l1 l2 : List (Str × D)} {ta tb : TD} {sp : DSp}
theorem e_binO : wBinO ks C sp ta tb ρ Q = ta ρ (kBo0 ks C sp tb Q) := rfl
theorem k_bo0 : kBo0 ks C sp tb Q r ρ = tb ρ (kBo1 ks C sp Q r) := rfl
theorem k_bo1 : kBo1 ks C sp Q r r2 ρ = lk (frzs ks [r, r2] ρ) (kBo2 C sp Q) := rfl
theorem k_bo2 : kBo2 C sp Q ([.ins C l1, .ins C l2], ρ) = sp [.dat (.ins C l1), .dat (.ins C l2)] (kRetQ Q ρ) noX := propext ⟨fun h => h.2.2, fun h => ⟨rfl, rfl, h⟩⟩
end
end DL

set_option Elab.async false
set_option maxRecDepth 100000
set_option maxHeartbeats 4000000
/-! DK: the deck of draws. -/
namespace DL
open PySem PySem.Spec PyProof.Rows L2
local macro_rules | `(tactic| walk_at "dl") => `(tactic| simp (config := {decide := false}) only [seqE_nx, seqE_rt, seqE_bk, seqE_ct, loopE_nx, loopE_rt, loopE_bk, loopE_ct, e_seq, e_next, e_break, e_cont, e_retN, e_var, q_var_d, q_var_o, e_c, con_d, con_o, con_b, conS_d, conS_o, own_l, own_d, own_i, z_d, z_n, z_t, z_w, sl_d, sl_o, frz_d, frz_o, frz_b, q_frz_d, q_frz_o, frzs_nil, frzs_cons, k_fzs, k_fz, thin_d, thin_o, thin_b, k_th, thins_nil, thins_cons, k_ths, k_ts, setR_nil, setR_cons, k_e, e_op, k_op1, k_op2, k_op3, k_op4, e_un, k_un1, k_un2, e_nil, e_cons, k_co1, k_co2, conL_nil, conL_cons, k_cl, k_cl2, e_b, k_b1, k_b2, e_tup, k_tup1, k_tup2, e_lst, k_lst1, k_lst2, e_dct0, k_ret, e_call, k_ca1, k_ca2, k_retR, e_callR, k_cr1, k_cr2, k_cr3, e_tr, k_tr1, k_tr2, k_tr3, e_bl, k_bl, e_and, k_and, e_or, k_or, e_not, k_not, e_if, k_if, e_ifS, k_ifS, e_notV, k_nv1, k_nv2, e_andV, k_av1, k_av2, e_orV, k_ov1, k_ov2, bD_bl, e_sl, k_sl1, k_sl2, k_sl3, k_sl4, e_part, k_pt1, k_pt2, e_noP, e_dget, k_ge1, k_ge1b, k_ge2, k_ge3, k_ge4, dctD_d, keyD_i, keyD_s, e_mut, q_mu0, k_mu1, k_mu2, q_mu3, k_mu4, e_put, k_pu1, k_pu2, k_pu3, k_pu4, q_pu4, k_pu5, e_aug, q_au0, k_au1, k_au2, k_au3, e_asg, k_as1, k_as2, e_par, k_pa1, k_pa2, e_unp, k_up1, k_up2, e_hName, e_hNil, e_hCons, k_hc, e_hTup, e_hWt, e_drop, k_dr, e_ret, k_rt_d, k_rt_o, k_rt_b, q_out_o, q_out_d, forL_nil, forL_cons, k_fo2, e_for, k_fo1, k_wh, e_itS, k_it1, k_it2, k_it3, walk_l, walk_f, walk_t, e_itR1, k_r11, k_r12, e_itR2, k_r21, k_r22, e_itE, k_en1, k_en2, k_en3, list_l, list_f, e_lc, k_lc, k_lcQ, compL_nil, compL_cons, k_c1, k_c2, k_c3, k_c4, e_yes, wip_nil, wip_cons, unw_nil, unw_cons, g_int, f_add, f_sub, f_mul, f_div, f_mod, f_pow, f_lt, f_le, f_gt, f_ge, add_i, add_s, add_l, add_t, mul_i, mul_l, mul_t, neg_i, ix_l, ix_t, sl_l, sl_f, sl_t, len_l, len_f, len_t, len_s, abs_i, int_i, lof_l, lof_f, lof_t, tof_l, tof_f, tof_t, dof_t, app_l, ext_t, ext_l, tru_b, tru_i, tru_l, tru_t, tru_n, augN, subN, is_bl, is_non, ixN4_0, ixN4_1, ixN4_2, ixN4_3, lk_some, lk_ite, lk_map, lk_bind, ixOf, endsF_nx, endsF_dat, endsF_own, atI_0, atI_1, atI_2, atI_3, eqA_l0, eqA_tup0, eqA_int, eqA_non, bne_f, bne_t, sizeLine_eq,
  List.cons_append, List.nil_append, List.getElem?_cons_zero, List.getElem?_cons_succ, List.set_cons_zero, List.set_cons_succ, List.length_cons, List.length_nil, List.replicate, List.take_succ_cons, List.take_zero, List.not_mem_nil, List.mem_cons, List.map_cons, List.map_nil, if_false, if_true, Option.map_some, Option.bind_some, Option.getD_some, Nat.reduceAdd, Nat.reduceSub, Nat.reduceLeDiff, Nat.reduceEqDiff, Nat.succ_ne_zero, Nat.zero_ne_one, Nat.one_ne_zero, List.isEmpty_nil, List.isEmpty_cons, List.length_map, List.isEmpty_map, beq_iff_eq, Bool.not_eq_true, reduceCtorEq, or_false, or_true, false_or, true_or, and_true, true_and, List.cons.injEq, Option.some.injEq, Sl.own.injEq, Own.lst.injEq, exists_eq', not_false_eq_true, forall_const, forall_eq, forall_eq_or_imp, decide_eq_true_eq, Bool.not_true, Bool.not_false, Bool.false_eq_true, ite_self])
def sp__law_mixed : DSp := fun args Q _ => ∃ number lap : Int, args = [.dat (.int number), .dat (.int lap)] ∧ 0 ≤ number ∧ number < 2 ^ 64 ∧ 0 ≤ lap ∧ lap < 2 ^ 64 ∧ ∀ r : Int, 0 ≤ r → Q (.dat (.int r)) [.dat (.int number), .dat (.int lap)]
theorem nat_lt {i : Int} {n : Nat} (h0 : 0 ≤ i) (h : i < 2 ^ n) : i.natAbs < 2 ^ n := by
  have : ((i.natAbs : Nat) : Int) < ((2 ^ n : Nat) : Int) := by
    rw [Int.natAbs_of_nonneg h0]; push_cast; exact h
  exact Int.ofNat_lt.mp this
theorem mulB {i j : Int} (a b : Nat) (h0 : 0 ≤ i) (hi : i < 2 ^ a) (k0 : 0 ≤ j) (hj : j < 2 ^ b) (h1 : 0 < a) (h2 : 0 < b) (h : a + b < 1000000) : i.natAbs.log2 + j.natAbs.log2 < 1000000 := mul_ok a b (nat_lt h0 hi) (nat_lt k0 hj) h1 h2 h
/-! ### the deck: n more draws are let by -/
structure Dk (n : Nat) (o : Own) : Prop where
  ex : ∃ (cells : List Int) (place amount left : Int), o = .lst [.lst (cells.map .int), .int place, .int amount, .int left] ∧ cells.length ≤ 63 ∧ (∀ c ∈ cells, 0 ≤ c) ∧ 0 ≤ place ∧ place + (n : Int) < 2 ^ 63 ∧ 0 ≤ amount ∧ 0 ≤ left
theorem Dk.mono {n m : Nat} {o : Own} (h : Dk n o) (e : m ≤ n) : Dk m o := by
  obtain ⟨c, p, a, l, h1, h2, h3, h4, h5, h6⟩ := h.ex
  exact ⟨c, p, a, l, h1, h2, h3, h4, by omega, h6⟩
def sp__law_below : DSp := fun args Q _ => ∃ (n : Nat) (o : Own) (bound : Int), args = [.own o, .dat (.int bound)] ∧ Dk (n + 1) o ∧ 0 < bound ∧ bound < 2 ^ 64 ∧ ∀ (r : Int) (o' : Own), 0 ≤ r → r < bound → Dk n o' → Q (.dat (.int r)) [.own o', .dat (.int bound)]
def rd__law_below (ks : List Nat) (sp__law_mixed : DSp) : SD :=
  (wSeq (wIfS (wBl (wOp (gInt fLt) (wOp gIx (wVar 0) (wC (.int 3))) (wVar 1))) (wSeq (wPar ks [2, 3] (wCons (wOp gIx (wVar 0) (wC (.int 0))) (wCons (wOp gIx (wVar 0) (wC (.int 1))) wNil)))
  (wSeq (wAsg ks 4 (wIf (wBl (wOp (gEqA true) (wVar 2) (wLst ks wNil))) (wOp gIx (wVar 2) (wOp (gInt fMod) (wVar 3) (wB gLen (wCons (wVar 2) wNil)))) (wC (.int 0))))
  (wSeq (wIfS (wOr (wBl (wOp (gInt fGe) (wVar 3) (wB gLen (wCons (wVar 2) wNil)))) (wBl (wOp (gInt fLt) (wVar 4) (wOp (gInt fPow) (wC (.int 10)) (wC (.int 16)))))) (wAsg ks 4 (wCall ks sp__law_mixed (wCons (wOp (gInt fMod) (wB gIntOf (wCons (wVar 4) wNil)) (wC (.int 998244353))) (wCons (wVar 3) wNil)))) wNext)
  (wSeq (wPut ks 0 (wC (.int 1)) (wOp gAdd (wVar 3) (wC (.int 1))))
  (wSeq (wPut ks 0 (wC (.int 2)) (wVar 4))
  (wPut ks 0 (wC (.int 3)) (wVar 4))))))) wNext)
  (wSeq (wAsg ks 5 (wOp (gInt fMod) (wB gIntOf (wCons (wOp gIx (wVar 0) (wC (.int 2))) wNil)) (wVar 1)))
  (wSeq (wPut ks 0 (wC (.int 2)) (wOp (gInt fDiv) (wOp gIx (wVar 0) (wC (.int 2))) (wVar 1)))
  (wSeq (wPut ks 0 (wC (.int 3)) (wOp (gInt fDiv) (wOp gIx (wVar 0) (wC (.int 3))) (wVar 1)))
  (wRet ks (wVar 5))))))
theorem div_nn {a b : Int} (h0 : 0 ≤ a) (hb : 0 < b) : 0 ≤ a / b := Int.ediv_nonneg h0 (Int.le_of_lt hb)
theorem bnd_ok {b : Int} (h0 : 0 < b) (h : b < 2 ^ 64) : b.natAbs.log2 < 9000 := by
  have := log2_of (nat_lt (Int.le_of_lt h0) h) (by decide)
  omega
theorem pl__law_below : PL 6 2 (fun ks => rd__law_below ks sp__law_mixed) sp__law_below := fun args QD ED h => by
  obtain ⟨n, o, bound, rfl, hd, b0, b1, h⟩ := h
  obtain ⟨cells, place, amount, left, rfl, c0, c1, p0, p1, a0, l0⟩ := hd.ex
  refine ⟨rfl, ?_⟩
  have hb := bnd_ok b0 b1
  have fin : ∀ (am : Int) (s2 s3 s4 s5 : Sl), 0 ≤ am → QD (.dat (.int (am % bound))) [.own (.lst [.lst (cells.map .int), .int (place + 1), .int (am / bound), .int (am / bound)]), .dat (.int bound)] := fun am s2 s3 s4 s5 h0 =>
    h _ _ (Int.emod_nonneg _ (by omega)) (Int.emod_lt_of_pos _ b0) ⟨⟨cells, place + 1, am / bound, am / bound, rfl, c0, c1, by omega, by omega, div_nn h0 b0, div_nn h0 b0⟩⟩
  unfold rd__law_below
  walk_at "dl"
  split
  · -- a new amount
    split
    · rename_i hc
      have hl : 0 < (cells.length : Int) := by
        cases cells with
        | nil => exact absurd hc (by simp)
        | cons x xs => rw [List.length_cons]; omega
      refine ⟨hl, ?_⟩
      obtain ⟨v, hv, ev⟩ := atI_map (f := D.int) (Int.emod_nonneg place (by omega)) (Int.emod_lt_of_pos place hl)
      have v0 := c1 v hv
      rw [lk_eq ev]
      walk_at "dl"
      split
      · refine ⟨by decide, _, _, rfl, Int.emod_nonneg _ (by decide), Int.lt_trans (Int.emod_lt_of_pos _ (by decide)) (by decide), p0, by omega, fun r hr => ?_⟩
        walk_at "dl"
        exact ⟨b0, ⟨b0, hb⟩, ⟨b0, hb⟩, fin r .no .no .no .no hr⟩
      · refine ⟨⟨by decide, by decide, by decide⟩, ?_⟩
        split
        · refine ⟨by decide, _, _, rfl, Int.emod_nonneg _ (by decide), Int.lt_trans (Int.emod_lt_of_pos _ (by decide)) (by decide), p0, by omega, fun r hr => ?_⟩
          walk_at "dl"
          exact ⟨b0, ⟨b0, hb⟩, ⟨b0, hb⟩, fin r .no .no .no .no hr⟩
        · exact ⟨b0, ⟨b0, hb⟩, ⟨b0, hb⟩, fin v .no .no .no .no v0⟩
    · split
      · refine ⟨by decide, _, _, rfl, Int.emod_nonneg _ (by decide), Int.lt_trans (Int.emod_lt_of_pos _ (by decide)) (by decide), p0, by omega, fun r hr => ?_⟩
        walk_at "dl"
        exact ⟨b0, ⟨b0, hb⟩, ⟨b0, hb⟩, fin r .no .no .no .no hr⟩
      · refine ⟨⟨by decide, by decide, by decide⟩, ?_⟩
        split
        · refine ⟨by decide, _, _, rfl, Int.emod_nonneg _ (by decide), Int.lt_trans (Int.emod_lt_of_pos _ (by decide)) (by decide), p0, by omega, fun r hr => ?_⟩
          walk_at "dl"
          exact ⟨b0, ⟨b0, hb⟩, ⟨b0, hb⟩, fin r .no .no .no .no hr⟩
        · exact ⟨b0, ⟨b0, hb⟩, ⟨b0, hb⟩, fin 0 .no .no .no .no (Int.le_refl 0)⟩
  · refine ⟨b0, ⟨b0, hb⟩, ⟨b0, hb⟩, ?_⟩
    exact h _ _ (Int.emod_nonneg _ (by omega)) (Int.emod_lt_of_pos _ b0) ⟨⟨cells, place, amount / bound, left / bound, rfl, c0, c1, by omega, by omega, div_nn a0 b0, div_nn l0 b0⟩⟩

/-! ### pick: one of a list's items -/
def sp__law_pick : DSp := fun args Q _ => ∃ (n : Nat) (o : Own) (l : List D), args = [.own o, .dat (.lst l)] ∧ Dk (n + 1) o ∧ l ≠ [] ∧ l.length < 1000 ∧ ∀ (x : D) (o' : Own), x ∈ l → Dk n o' → Q (.dat x) [.own o', .dat (.lst l)]
def rd__law_pick (ks : List Nat) (sp__law_below : DSp) : SD :=
  (wRet ks (wOp gIx (wVar 1) (wCallR ks sp__law_below (wCons (wVar 0) (wCons (wB gLen (wCons (wVar 1) wNil)) wNil)))))
theorem pl__law_pick : PL 2 2 (fun ks => rd__law_pick ks sp__law_below) sp__law_pick := fun args QD ED h => by
  obtain ⟨n, o, l, rfl, hd, hl, hz, h⟩ := h
  refine ⟨rfl, ?_⟩
  unfold rd__law_pick
  walk_at "dl"
  have l0 : 0 < l.length := List.length_pos_iff.mpr hl
  refine ⟨n, o, l.length, rfl, hd, by omega, by omega, fun r o' h0 h1 hd' => ?_⟩
  walk_at "dl"
  obtain ⟨x, hx, e, _⟩ := atI_mem h0 h1
  rw [lk_eq e]
  exact h x o' hx hd'

/-! ### the deck of a script -/
def absI (i : Int) : Int := if i < 0 then -i else i
theorem absI_nn (i : Int) : 0 ≤ absI i := by unfold absI; split <;> omega
theorem deck_comp {s0 : Sl} {Q : List D → Rho → Prop} : ∀ (xs acc : List Int), acc.length + xs.length ≤ 63 → Q ((acc ++ xs.map absI).map .int) [s0, .no, .no, .no] →
    compL [] (hName [] 1) wYes (wB gAbs (wCons (wVar 1) wNil)) [1] (xs.map .int) (acc.map .int) [s0, .no, .no, .no] Q
  | [], acc, _, q => by
    rw [List.map_nil, List.append_nil] at q
    exact q
  | x :: xs, acc, h, q => by
    rw [List.length_cons] at h
    rw [List.map_cons]
    walk_at "dl"
    refine ⟨by omega, ?_⟩
    have e : acc.map D.int ++ [D.int (if x < 0 then -x else x)] = (acc ++ [absI x]).map D.int := by rw [List.map_append]; rfl
    rw [e]
    refine deck_comp xs (acc ++ [absI x]) (by rw [List.length_append, List.length_singleton]; omega) ?_
    rw [List.map_cons] at q
    rw [List.append_assoc]
    exact q
theorem deck_loop {s0 : Sl} {DD : EndsD} (hD : ∀ (cells : List Int) (s1 s3 : Sl), cells.length ≤ 16 → (∀ c ∈ cells, 0 ≤ c) → DD.nx [s0, s1, .own (.lst (cells.map .int)), s3]) : ∀ (ys : List Int) (n : Nat) (cells : List Int) (s1 s3 : Sl), cells.length ≤ 16 → (ys ≠ [] → cells.length = 16) → (∀ c ∈ cells, 0 ≤ c) →
    forL (hTup 2 (hCons (hName [] 3) (hCons (hName [] 1) hNil))) (wPut [] 2 (wOp (gInt fMod) (wVar 3) (wC (.int 16))) (wOp gAdd (wOp gIx (wVar 2) (wOp (gInt fMod) (wVar 3) (wC (.int 16)))) (wB gAbs (wCons (wVar 1) wNil)))) DD (enumD n (ys.map .int)) [s0, s1, .own (.lst (cells.map .int)), s3]
  | [], n, cells, s1, s3, h1, h2, h3 => hD cells s1 s3 h1 h3
  | y :: ys, n, cells, s1, s3, h1, h2, h3 => by
    have hc := h2 (by simp)
    show forL _ _ DD (.wt [.int (n : Nat), .int y] :: enumD (n + 1) (ys.map .int)) _
    walk_at "dl"
    have e0 : 0 ≤ (n : Int) % 16 := Int.emod_nonneg _ (by decide)
    have e1 : (n : Int) % 16 < 16 := Int.emod_lt_of_pos _ (by decide)
    refine ⟨by decide, ?_⟩
    obtain ⟨v, hv, ev⟩ := atI_map (f := D.int) (l := cells) e0 (by rw [hc]; exact e1)
    rw [lk_eq ev]
    walk_at "dl"
    refine ⟨by decide, ?_⟩
    rw [lk_eq (ixN_int (n := cells.length) e0 (by rw [hc]; exact e1))]
    walk_at "dl"
    have e2 : (cells.map D.int).set ((n : Int) % 16).toNat (D.int (v + if y < 0 then -y else y)) = (cells.set ((n : Int) % 16).toNat (v + absI y)).map D.int := by rw [List.map_set]; rfl
    rw [e2]
    refine deck_loop hD ys (n + 1) _ _ _ (by rw [List.length_set]; exact h1) (fun _ => by rw [List.length_set]; exact hc) fun c hcm => ?_
    rcases List.mem_or_eq_of_mem_set hcm with h | h
    · exact h3 c h
    · have := h3 v hv
      have := absI_nn y
      omega
end DL

set_option Elab.async false
set_option maxRecDepth 100000
set_option maxHeartbeats 4000000
/-! DT: drawn kinds and trees. -/
namespace DL
open PySem PySem.Spec PyProof.Rows L2
local macro_rules | `(tactic| walk_at "dl") => `(tactic| simp (config := {decide := false}) only [seqE_nx, seqE_rt, seqE_bk, seqE_ct, loopE_nx, loopE_rt, loopE_bk, loopE_ct, e_seq, e_next, e_break, e_cont, e_retN, e_var, q_var_d, q_var_o, e_c, con_d, con_o, con_b, conS_d, conS_o, own_l, own_d, own_i, z_d, z_n, z_t, z_w, sl_d, sl_o, frz_d, frz_o, frz_b, q_frz_d, q_frz_o, frzs_nil, frzs_cons, k_fzs, k_fz, thin_d, thin_o, thin_b, k_th, thins_nil, thins_cons, k_ths, k_ts, setR_nil, setR_cons, k_e, e_op, k_op1, k_op2, k_op3, k_op4, e_un, k_un1, k_un2, e_nil, e_cons, k_co1, k_co2, conL_nil, conL_cons, k_cl, k_cl2, e_b, k_b1, k_b2, e_tup, k_tup1, k_tup2, e_lst, k_lst1, k_lst2, e_dct0, k_ret, e_call, k_ca1, k_ca2, k_retR, e_callR, k_cr1, k_cr2, k_cr3, e_tr, k_tr1, k_tr2, k_tr3, e_bl, k_bl, e_and, k_and, e_or, k_or, e_not, k_not, e_if, k_if, e_ifS, k_ifS, e_notV, k_nv1, k_nv2, e_andV, k_av1, k_av2, e_orV, k_ov1, k_ov2, bD_bl, e_sl, k_sl1, k_sl2, k_sl3, k_sl4, e_part, k_pt1, k_pt2, e_noP, e_dget, k_ge1, k_ge1b, k_ge2, k_ge3, k_ge4, dctD_d, keyD_i, keyD_s, e_mut, q_mu0, k_mu1, k_mu2, q_mu3, k_mu4, e_put, k_pu1, k_pu2, k_pu3, k_pu4, q_pu4, k_pu5, e_aug, q_au0, k_au1, k_au2, k_au3, e_asg, k_as1, k_as2, e_par, k_pa1, k_pa2, e_unp, k_up1, k_up2, e_hName, e_hNil, e_hCons, k_hc, e_hTup, e_hWt, e_drop, k_dr, e_ret, k_rt_d, k_rt_o, k_rt_b, q_out_o, q_out_d, forL_nil, forL_cons, k_fo2, e_for, k_fo1, k_wh, e_itS, k_it1, k_it2, k_it3, walk_l, walk_f, walk_t, e_itR1, k_r11, k_r12, e_itR2, k_r21, k_r22, e_itE, k_en1, k_en2, k_en3, list_l, list_f, e_lc, k_lc, k_lcQ, compL_nil, compL_cons, k_c1, k_c2, k_c3, k_c4, e_yes, wip_nil, wip_cons, unw_nil, unw_cons, g_int, f_add, f_sub, f_mul, f_div, f_mod, f_pow, f_lt, f_le, f_gt, f_ge, add_i, add_s, add_l, add_t, mul_i, mul_l, mul_t, neg_i, ix_l, ix_t, sl_l, sl_f, sl_t, len_l, len_f, len_t, len_s, abs_i, int_i, lof_l, lof_f, lof_t, tof_l, tof_f, tof_t, dof_t, app_l, ext_t, ext_l, tru_b, tru_i, tru_l, tru_t, tru_n, augN, subN, is_bl, is_non, ixN4_0, ixN4_1, ixN4_2, ixN4_3, lk_some, lk_ite, lk_map, lk_bind, ixOf, endsF_nx, endsF_dat, endsF_own, atI_0, atI_1, atI_2, atI_3, eqA_l0, eqA_tup0, eqA_int, eqA_non, bne_f, bne_t, sizeLine_eq,
  List.cons_append, List.nil_append, List.getElem?_cons_zero, List.getElem?_cons_succ, List.set_cons_zero, List.set_cons_succ, List.length_cons, List.length_nil, List.replicate, List.take_succ_cons, List.take_zero, List.not_mem_nil, List.mem_cons, List.map_cons, List.map_nil, if_false, if_true, Option.map_some, Option.bind_some, Option.getD_some, Nat.reduceAdd, Nat.reduceSub, Nat.reduceLeDiff, Nat.reduceEqDiff, Nat.succ_ne_zero, Nat.zero_ne_one, Nat.one_ne_zero, List.isEmpty_nil, List.isEmpty_cons, List.length_map, List.isEmpty_map, beq_iff_eq, Bool.not_eq_true, reduceCtorEq, or_false, or_true, false_or, true_or, and_true, true_and, List.cons.injEq, Option.some.injEq, Sl.own.injEq, Own.lst.injEq, exists_eq', not_false_eq_true, forall_const, forall_eq, forall_eq_or_imp, decide_eq_true_eq, Bool.not_true, Bool.not_false, Bool.false_eq_true, ite_self])
abbrev Kind := List (Str × Int)
def tagNames : List Str := ["leaf", "join", "a", "z9", "node", "b2b", "tip", "eightabc"]
structure KindOk (k : Kind) : Prop where
  nd : (k.map (·.1)).Nodup
  leaf : ∃ t, (t, 0) ∈ k
  node : ∃ t p, (t, p) ∈ k ∧ 0 < p
  rng : ∀ q ∈ k, 0 ≤ q.2 ∧ q.2 ≤ 4 ∧ q.1 ∈ tagNames
  len : k.length ≤ 8
structure SkInv (ps : List Int) (ts : List Str) (fs : Kind) : Prop where
  nd : (ts ++ fs.map (·.1)).Nodup
  tags : ∀ t ∈ ts, t ∈ tagNames
  zero : 0 ∈ ps ∨ ∃ t, (t, 0) ∈ fs
  pos : (∃ p ∈ ps, 0 < p) ∨ ∃ t p, (t, p) ∈ fs ∧ 0 < p
  rng : ∀ p ∈ ps, 0 ≤ p ∧ p ≤ 4
  frng : ∀ q ∈ fs, 0 ≤ q.2 ∧ q.2 ≤ 4 ∧ q.1 ∈ tagNames
  len : ps.length + fs.length ≤ 8
theorem erase_perm {α : Type} : ∀ {l : List α} {i : Nat} {x : α}, l[i]? = some x → (x :: l.eraseIdx i).Perm l
  | [], i, x, h => by simp at h
  | y :: l, 0, x, h => by
    cases h
    exact List.Perm.refl _
  | y :: l, i + 1, x, h => by
    rw [List.eraseIdx_cons_succ]
    exact (List.Perm.swap y x _).trans (List.Perm.cons y (erase_perm (by simpa using h)))
theorem erase_mem {α : Type} {l : List α} {i : Nat} {x y : α} (e : l[i]? = some x) (h : y ∈ l) : y = x ∨ y ∈ l.eraseIdx i := List.mem_cons.mp ((erase_perm e).mem_iff.mpr h)
theorem mem_erase {α : Type} {l : List α} {i : Nat} {y : α} (h : y ∈ l.eraseIdx i) : y ∈ l := List.mem_of_mem_eraseIdx h
theorem SkInv.step {ps : List Int} {ts : List Str} {fs : Kind} {i j : Nat} {t : Str} {p : Int} (v : SkInv ps ts fs) (ei : ts[i]? = some t) (ej : ps[j]? = some p) : SkInv (ps.eraseIdx j) (ts.eraseIdx i) (fs ++ [(t, p)]) := by
  have ht : t ∈ ts := List.mem_of_getElem? ei
  have hp : p ∈ ps := List.mem_of_getElem? ej
  refine ⟨?_, fun x hx => v.tags x (mem_erase hx), ?_, ?_, fun x hx => v.rng x (mem_erase hx), fun q hq => ?_, ?_⟩
  · have h1 := erase_perm ei
    rw [List.map_append, List.map_singleton]
    refine (List.Perm.nodup_iff ?_).mp v.nd
    refine (h1.symm.append_right _).trans ?_
    rw [List.cons_append]
    refine (List.perm_append_comm (l₁ := [t]) (l₂ := ts.eraseIdx i ++ fs.map (·.1))).trans ?_
    rw [List.append_assoc]
  · rcases v.zero with h | ⟨x, h⟩
    · rcases erase_mem ej h with rfl | h
      · exact .inr ⟨t, List.mem_append_right _ List.mem_cons_self⟩
      · exact .inl h
    · exact .inr ⟨x, List.mem_append_left _ h⟩
  · rcases v.pos with ⟨q, h, hq⟩ | ⟨x, q, h, hq⟩
    · rcases erase_mem ej h with rfl | h
      · exact .inr ⟨t, q, List.mem_append_right _ List.mem_cons_self, hq⟩
      · exact .inl ⟨q, h, hq⟩
    · exact .inr ⟨x, q, List.mem_append_left _ h, hq⟩
  · rcases List.mem_append.mp hq with h | h
    · exact v.frng q h
    · cases List.mem_singleton.mp h
      exact ⟨(v.rng p hp).1, (v.rng p hp).2, v.tags t ht⟩
  · have hj : j < ps.length := (List.getElem?_eq_some_iff.mp ej).1
    rw [List.length_eraseIdx_of_lt hj, List.length_append, List.length_singleton]
    have := v.len
    omega
end DL

set_option Elab.async false
set_option maxRecDepth 100000
set_option maxHeartbeats 4000000
/-! DM: what many laws share, no deck, no kinds: classes of data, comprehensions, texts. -/
namespace DL
open PySem PySem.Spec PyProof.Rows L2
local macro_rules | `(tactic| walk_at "dl") => `(tactic| simp (config := {decide := false}) only [e_fld, k_fl1, k_fl2, k_fl3, insD_i, e_setF, k_sf1, k_sf2, q_sf, e_make, k_mk1, k_mk2, k_mk3, e_never, e_callRR, k_rr1, k_rr2, k_rr3, k_rr4, e_itEA, k_ea1, k_ea2, e_itT2, k_i1, k_i2, e_m1, k_m1, k_m1b, k_m2, k_m3, k_m4, e_itZ, k_z1, e_scLen, k_sc, k_scQ, compT_nil, compT_cons, k_t1, k_t2, k_t2b, k_t3, e_chain, k_ch, k_ch0, k_ch1, k_ch2, k_ch3, k_ch4, k_ch5, k_ch6, rev_l, rev_f, rev_t, clear_l, lista_s, max_2, min_2, inA_s, ix_s, mulA_si, seqE_nx, seqE_rt, seqE_bk, seqE_ct, loopE_nx, loopE_rt, loopE_bk, loopE_ct, e_seq, e_next, e_break, e_cont, e_retN, e_var, q_var_d, q_var_o, e_c, con_d, con_o, con_b, conS_d, conS_o, own_l, own_d, own_i, z_d, z_n, z_t, z_w, sl_d, sl_o, frz_d, frz_o, frz_b, q_frz_d, q_frz_o, frzs_nil, frzs_cons, k_fzs, k_fz, thin_d, thin_o, thin_b, k_th, thins_nil, thins_cons, k_ths, k_ts, setR_nil, setR_cons, k_e, e_op, k_op1, k_op2, k_op3, k_op4, e_un, k_un1, k_un2, e_nil, e_cons, k_co1, k_co2, conL_nil, conL_cons, k_cl, k_cl2, e_b, k_b1, k_b2, e_tup, k_tup1, k_tup2, e_lst, k_lst1, k_lst2, e_dct0, k_ret, e_call, k_ca1, k_ca2, k_retR, e_callR, k_cr1, k_cr2, k_cr3, e_tr, k_tr1, k_tr2, k_tr3, e_bl, k_bl, e_and, k_and, e_or, k_or, e_not, k_not, e_if, k_if, e_ifS, k_ifS, e_notV, k_nv1, k_nv2, e_andV, k_av1, k_av2, e_orV, k_ov1, k_ov2, bD_bl, e_sl, k_sl1, k_sl2, k_sl3, k_sl4, e_part, k_pt1, k_pt2, e_noP, e_dget, k_ge1, k_ge1b, k_ge2, k_ge3, k_ge4, dctD_d, keyD_i, keyD_s, e_mut, q_mu0, k_mu1, k_mu2, q_mu3, k_mu4, e_put, k_pu1, k_pu2, k_pu3, k_pu4, q_pu4, k_pu5, e_aug, q_au0, k_au1, k_au2, k_au3, e_asg, k_as1, k_as2, e_par, k_pa1, k_pa2, e_unp, k_up1, k_up2, e_hName, e_hNil, e_hCons, k_hc, e_hTup, e_hWt, e_drop, k_dr, e_ret, k_rt_d, k_rt_o, k_rt_b, q_out_o, q_out_d, forL_nil, forL_cons, k_fo2, e_for, k_fo1, k_wh, e_itS, k_it1, k_it2, k_it3, walk_l, walk_f, walk_t, e_itR1, k_r11, k_r12, e_itR2, k_r21, k_r22, e_itE, k_en1, k_en2, k_en3, list_l, list_f, e_lc, k_lc, k_lcQ, compL_nil, compL_cons, k_c1, k_c2, k_c3, k_c4, e_yes, wip_nil, wip_cons, unw_nil, unw_cons, g_int, f_add, f_sub, f_mul, f_div, f_mod, f_pow, f_lt, f_le, f_gt, f_ge, add_i, add_s, add_l, add_t, mul_i, mul_l, mul_t, neg_i, ix_l, ix_t, sl_l, sl_f, sl_t, len_l, len_f, len_t, len_s, abs_i, int_i, lof_l, lof_f, lof_t, tof_l, tof_f, tof_t, dof_t, app_l, ext_t, ext_l, tru_b, tru_i, tru_l, tru_t, tru_n, augN, subN, is_bl, is_non, ixN4_0, ixN4_1, ixN4_2, ixN4_3, lk_some, lk_ite, lk_map, lk_bind, ixOf, endsF_nx, endsF_dat, endsF_own, atI_0, atI_1, atI_2, atI_3, eqA_l0, eqA_tup0, eqA_int, eqA_non, bne_f, bne_t, sizeLine_eq,
  List.cons_append, List.nil_append, List.getElem?_cons_zero, List.getElem?_cons_succ, List.set_cons_zero, List.set_cons_succ, List.length_cons, List.length_nil, List.replicate, List.take_succ_cons, List.take_zero, List.not_mem_nil, List.mem_cons, List.map_cons, List.map_nil, if_false, if_true, Option.map_some, Option.bind_some, Option.getD_some, Nat.reduceAdd, Nat.reduceSub, Nat.reduceLeDiff, Nat.reduceEqDiff, Nat.succ_ne_zero, Nat.zero_ne_one, Nat.one_ne_zero, List.isEmpty_nil, List.isEmpty_cons, List.length_map, List.isEmpty_map, beq_iff_eq, Bool.not_eq_true, reduceCtorEq, or_false, or_true, false_or, true_or, and_true, true_and, List.cons.injEq, Option.some.injEq, Sl.own.injEq, Own.lst.injEq, exists_eq', not_false_eq_true, forall_const, forall_eq, forall_eq_or_imp, decide_eq_true_eq, Bool.not_true, Bool.not_false, Bool.false_eq_true, ite_self])

/-! ### classes of data -/
def TyOk (d : D) : Prop := ∃ t, tyD d = some t
def strB : D → Bool
  | .str _ => true
  | _ => false
def isIntD : D → Bool
  | .int _ | .bl _ => true
  | _ => false
def isBoolD : D → Bool
  | .bl _ => true
  | _ => false
def intB : D → Bool
  | .int _ => true
  | _ => false
theorem isi_strT {d : D} (h : TyOk d) : gIsi [d, .ty "str"] = some (.d (.bl (strB d))) := by
  obtain ⟨t, h⟩ := h
  cases d <;> first | rfl | cases h
theorem isi_intT {d : D} (h : TyOk d) : gIsi [d, .ty "int"] = some (.d (.bl (isIntD d))) := by
  obtain ⟨t, h⟩ := h
  cases d <;> first | rfl | cases h
theorem isi_boolT {d : D} (h : TyOk d) : gIsi [d, .ty "bool"] = some (.d (.bl (isBoolD d))) := by
  obtain ⟨t, h⟩ := h
  cases d <;> first | rfl | cases h
def rd_is_integer (ks : List Nat) : SD :=
  (wRet ks (wAndV (wB gIsi (wCons (wVar 0) (wCons (wC (.ty "int")) wNil))) (wNotV (wB gIsi (wCons (wVar 0) (wCons (wC (.ty "bool")) wNil))))))
def sp_is_integer : DSp := fun args Q _ => ∃ d : D, args = [.dat d] ∧ TyOk d ∧ Q (.dat (.bl (intB d))) [.dat d]
theorem int_eq (d : D) : intB d = (isIntD d && !isBoolD d) := by cases d <;> rfl
theorem pl_is_integer : PL 1 1 rd_is_integer sp_is_integer := fun args QD ED h => by
  obtain ⟨d, rfl, hd, h⟩ := h
  refine ⟨rfl, ?_⟩
  rw [int_eq] at h
  unfold rd_is_integer
  walk_at "dl"
  rw [lk_eq (isi_intT hd)]
  walk_at "dl"
  split
  · rename_i hc
    rw [lk_eq (isi_boolT hd)]
    walk_at "dl"
    rw [hc, Bool.true_and] at h
    exact h
  · rename_i hc
    rw [Bool.eq_false_iff.mpr hc, Bool.false_and] at h
    exact h

theorem blsD_map {α : Type} (f : α → Bool) : ∀ l : List α, blsD (l.map fun c => .bl (f c)) = some (l.map f)
  | [] => rfl
  | x :: l => by
    rw [List.map_cons]
    show (blsD (l.map _)).map (f x :: ·) = _
    rw [blsD_map f l]; rfl
theorem all_map {α : Type} (f : α → Bool) (l : List α) : gAll [.lst (l.map fun c => .bl (f c))] = some (.d (.bl (l.all f))) := by
  unfold gAll
  dsimp only
  rw [blsD_map]
  show some (Z.d (.bl ((l.map f).all id))) = _
  rw [List.all_map]; rfl
theorem set1_back {ρ : Rho} {i : Nat} {a : Sl} (hi : ρ[i]? = some .no) : ((ρ.set i a).set i Sl.no) = ρ := by
  refine List.ext_getElem? fun n => ?_
  simp only [List.getElem?_set, List.length_set]
  by_cases h1 : i = n
  · subst h1
    rw [if_pos rfl, if_pos (List.getElem?_eq_some_iff.mp hi).1, hi]
  · rw [if_neg h1, if_neg h1]
theorem strsD_map : ∀ l : List Str, strsD (l.map .str) = some l
  | [] => rfl
  | i :: l => by
    rw [List.map_cons]
    show (strsD (l.map .str)).map (i :: ·) = _
    rw [strsD_map l]; rfl
def boolT (c : Bool) : Str := Str.ofString (if c then "True" else "False")
theorem repr_bl (c : Bool) : gRepr [.bl c] = some (.d (.str (boolT c))) := by cases c <;> rfl
theorem eqA_same {x : Str} : gEqA true (.str x) (.str x) = some (.d (.bl false)) := by
  have := eqA_eq (neg := true) (eqB_str (x := x) (y := x))
  rw [this]
  simp

/-! ### texts of data -/
structure Tx (d : D) (n m : Nat) : Prop where
  ex : ∃ p, pyR d = some p ∧ p.showable = true ∧ p.depth ≤ n ∧ p.shown.length ≤ m
structure Txs (l : List D) (n m : Nat) : Prop where
  ex : ∃ ps, pyRs l = some ps ∧ PyData.showableAll ps = true ∧ PyData.depthAll ps ≤ n ∧ piled (PyData.shownAll ps) ≤ m
end DL

set_option Elab.async false
set_option maxRecDepth 100000
set_option maxHeartbeats 4000000
/-! DPK: the other deck (pot), names and kinds drawn from it. -/
namespace DL.Pot
open DL PySem PySem.Spec PyProof.Rows L2
local macro_rules | `(tactic| walk_at "dl") => `(tactic| simp (config := {decide := false, implicitDefEqProofs := false}) only [e_eqO, k_eo0, k_eo1, k_eo2, k_eo3, e_cnt, k_cn0, k_cn1, k_cn2, k_cn3, isLst_l, cntD_i, e_fld, k_fl1, k_fl2, k_fl3, insD_i, e_setF, k_sf1, k_sf2, q_sf, e_make, k_mk1, k_mk2, k_mk3, e_never, e_callRR, k_rr1, k_rr2, k_rr3, k_rr4, e_itEA, k_ea1, k_ea2, e_itT2, k_i1, k_i2, e_m1, k_m1, k_m1b, k_m2, k_m3, k_m4, e_itZ, k_z1, e_scLen, k_sc, k_scQ, compT_nil, compT_cons, k_t1, k_t2, k_t2b, k_t3, e_chain, k_ch, k_ch0, k_ch1, k_ch2, k_ch3, k_ch4, k_ch5, k_ch6, rev_l, rev_f, rev_t, clear_l, lista_s, max_2, min_2, inA_s, ix_s, mulA_si, seqE_nx, seqE_rt, seqE_bk, seqE_ct, loopE_nx, loopE_rt, loopE_bk, loopE_ct, e_seq, e_next, e_break, e_cont, e_retN, e_var, q_var_d, q_var_o, e_c, con_d, con_o, con_b, conS_d, conS_o, own_l, own_d, own_i, z_d, z_n, z_t, z_w, sl_d, sl_o, frz_d, frz_o, frz_b, q_frz_d, q_frz_o, frzs_nil, frzs_cons, k_fzs, k_fz, thin_d, thin_o, thin_b, k_th, thins_nil, thins_cons, k_ths, k_ts, setR_nil, setR_cons, k_e, e_op, k_op1, k_op2, k_op3, k_op4, e_un, k_un1, k_un2, e_nil, e_cons, k_co1, k_co2, conL_nil, conL_cons, k_cl, k_cl2, e_b, k_b1, k_b2, e_tup, k_tup1, k_tup2, e_lst, k_lst1, k_lst2, e_dct0, k_ret, e_call, k_ca1, k_ca2, k_retR, e_callR, k_cr1, k_cr2, k_cr3, e_tr, k_tr1, k_tr2, k_tr3, e_bl, k_bl, e_and, k_and, e_or, k_or, e_not, k_not, e_if, k_if, e_ifS, k_ifS, e_notV, k_nv1, k_nv2, e_andV, k_av1, k_av2, e_orV, k_ov1, k_ov2, bD_bl, e_sl, k_sl1, k_sl2, k_sl3, k_sl4, e_part, k_pt1, k_pt2, e_noP, e_dget, k_ge1, k_ge1b, k_ge2, k_ge3, k_ge4, dctD_d, keyD_i, keyD_s, e_mut, q_mu0, k_mu1, k_mu2, q_mu3, k_mu4, e_put, k_pu1, k_pu2, k_pu3, k_pu4, q_pu4, k_pu5, e_aug, q_au0, k_au1, k_au2, k_au3, e_asg, k_as1, k_as2, e_par, k_pa1, k_pa2, e_unp, k_up1, k_up2, e_hName, e_hNil, e_hCons, k_hc, e_hTup, e_hWt, e_drop, k_dr, e_ret, k_rt_d, k_rt_o, k_rt_b, q_out_o, q_out_d, forL_nil, forL_cons, k_fo2, e_for, k_fo1, k_wh, e_itS, k_it1, k_it2, k_it3, walk_l, walk_f, walk_t, e_itR1, k_r11, k_r12, e_itR2, k_r21, k_r22, e_itE, k_en1, k_en2, k_en3, list_l, list_f, e_lc, k_lc, k_lcQ, compL_nil, compL_cons, k_c1, k_c2, k_c3, k_c4, e_yes, wip_nil, wip_cons, unw_nil, unw_cons, g_int, f_add, f_sub, f_mul, f_div, f_mod, f_pow, f_lt, f_le, f_gt, f_ge, add_i, add_s, add_l, add_t, mul_i, mul_l, mul_t, neg_i, ix_l, ix_t, sl_l, sl_f, sl_t, len_l, len_f, len_t, len_s, abs_i, int_i, lof_l, lof_f, lof_t, tof_l, tof_f, tof_t, dof_t, app_l, ext_t, ext_l, tru_b, tru_i, tru_l, tru_t, tru_n, augN, subN, is_bl, is_non, ixN4_0, ixN4_1, ixN4_2, ixN4_3, lk_some, lk_ite, lk_map, lk_bind, ixOf, endsF_nx, endsF_dat, endsF_own, atI_0, atI_1, atI_2, atI_3, eqA_l0, eqA_tup0, eqA_int, eqA_non, bne_f, bne_t, sizeLine_eq,
  List.cons_append, List.nil_append, List.getElem?_cons_zero, List.getElem?_cons_succ, List.set_cons_zero, List.set_cons_succ, List.length_cons, List.length_nil, List.replicate, List.take_succ_cons, List.take_zero, List.not_mem_nil, List.mem_cons, List.map_cons, List.map_nil, if_false, if_true, Option.map_some, Option.bind_some, Option.getD_some, Nat.reduceAdd, Nat.reduceSub, Nat.reduceLeDiff, Nat.reduceEqDiff, Nat.succ_ne_zero, Nat.zero_ne_one, Nat.one_ne_zero, List.isEmpty_nil, List.isEmpty_cons, List.length_map, List.isEmpty_map, beq_iff_eq, Bool.not_eq_true, reduceCtorEq, or_false, or_true, false_or, true_or, and_true, true_and, List.cons.injEq, Option.some.injEq, Sl.own.injEq, Own.lst.injEq, exists_eq', not_false_eq_true, forall_const, forall_eq, forall_eq_or_imp, decide_eq_true_eq, Bool.not_true, Bool.not_false, Bool.false_eq_true, ite_self])
local macro_rules | `(tactic| walk_at "dlf") => `(tactic| simp (config := {decide := false, implicitDefEqProofs := false}) only [e_eqO, k_eo0, k_eo1, k_eo2, k_eo3, e_cnt, k_cn0, k_cn1, k_cn2, k_cn3, isLst_l, cntD_i, e_fld, k_fl1, k_fl2, k_fl3, insD_i, e_setF, k_sf1, k_sf2, q_sf, e_make, k_mk1, k_mk2, k_mk3, e_never, e_callRR, k_rr1, k_rr2, k_rr3, k_rr4, e_itEA, k_ea1, k_ea2, e_itT2, k_i1, k_i2, e_m1, k_m1, k_m1b, k_m2, k_m3, k_m4, e_itZ, k_z1, e_scLen, k_sc, k_scQ, compT_nil, compT_cons, k_t1, k_t2, k_t2b, k_t3, e_chain, k_ch, k_ch0, k_ch1, k_ch2, k_ch3, k_ch4, k_ch5, k_ch6, rev_l, rev_f, rev_t, clear_l, lista_s, max_2, min_2, inA_s, ix_s, mulA_si, seqE_nx, seqE_rt, seqE_bk, seqE_ct, loopE_nx, loopE_rt, loopE_bk, loopE_ct, e_seq, e_next, e_break, e_cont, e_retN, e_var, q_var_d, q_var_o, e_c, con_d, con_o, con_b, conS_d, conS_o, own_l, own_d, own_i, z_d, z_n, z_t, z_w, sl_d, sl_o, frz_d, frz_o, frz_b, q_frz_d, q_frz_o, frzs_nil, frzs_cons, k_fzs, k_fz, thin_d, thin_o, thin_b, k_th, thins_nil, thins_cons, k_ths, k_ts, setR_nil, setR_cons, k_e, e_op, k_op1, k_op2, k_op3, k_op4, e_un, k_un1, k_un2, e_nil, e_cons, k_co1, k_co2, conL_nil, conL_cons, k_cl, k_cl2, e_b, k_b1, k_b2, e_tup, k_tup1, k_tup2, e_lst, k_lst1, k_lst2, e_dct0, k_ret, e_call, k_ca1, k_ca2, k_retR, e_callR, k_cr1, k_cr2, k_cr3, e_tr, k_tr1, k_tr2, k_tr3, e_bl, k_bl, e_and, k_and, e_or, k_or, e_not, k_not, e_if, k_if, e_ifS, k_ifS, e_notV, k_nv1, k_nv2, e_andV, k_av1, k_av2, e_orV, k_ov1, k_ov2, bD_bl, e_sl, k_sl1, k_sl2, k_sl3, k_sl4, e_part, k_pt1, k_pt2, e_noP, e_dget, k_ge1, k_ge1b, k_ge2, k_ge3, k_ge4, dctD_d, keyD_i, keyD_s, e_mut, q_mu0, k_mu1, k_mu2, q_mu3, k_mu4, e_put, k_pu1, k_pu2, k_pu3, k_pu4, q_pu4, k_pu5, e_aug, q_au0, k_au1, k_au2, k_au3, e_asg, k_as1, k_as2, e_par, k_pa1, k_pa2, e_unp, k_up1, k_up2, e_hName, e_hNil, e_hCons, k_hc, e_hTup, e_hWt, e_drop, k_dr, e_ret, k_rt_d, k_rt_o, k_rt_b, q_out_o, q_out_d, forL_nil, k_fo2, e_for, k_fo1, k_wh, e_itS, k_it1, k_it2, k_it3, walk_l, walk_f, walk_t, e_itR1, k_r11, k_r12, e_itR2, k_r21, k_r22, e_itE, k_en1, k_en2, k_en3, list_l, list_f, e_lc, k_lc, k_lcQ, compL_nil, k_c1, k_c2, k_c3, k_c4, e_yes, wip_nil, wip_cons, unw_nil, unw_cons, g_int, f_add, f_sub, f_mul, f_div, f_mod, f_pow, f_lt, f_le, f_gt, f_ge, add_i, add_s, add_l, add_t, mul_i, mul_l, mul_t, neg_i, ix_l, ix_t, sl_l, sl_f, sl_t, len_l, len_f, len_t, len_s, abs_i, int_i, lof_l, lof_f, lof_t, tof_l, tof_f, tof_t, dof_t, app_l, ext_t, ext_l, tru_b, tru_i, tru_l, tru_t, tru_n, augN, subN, is_bl, is_non, ixN4_0, ixN4_1, ixN4_2, ixN4_3, lk_some, lk_ite, lk_map, lk_bind, ixOf, endsF_nx, endsF_dat, endsF_own, atI_0, atI_1, atI_2, atI_3, eqA_l0, eqA_tup0, eqA_int, eqA_non, bne_f, bne_t, sizeLine_eq,
  List.cons_append, List.nil_append, List.getElem?_cons_zero, List.getElem?_cons_succ, List.set_cons_zero, List.set_cons_succ, List.length_cons, List.length_nil, List.replicate, List.take_succ_cons, List.take_zero, List.not_mem_nil, List.mem_cons, List.map_cons, List.map_nil, if_false, if_true, Option.map_some, Option.bind_some, Option.getD_some, Nat.reduceAdd, Nat.reduceSub, Nat.reduceLeDiff, Nat.reduceEqDiff, Nat.succ_ne_zero, Nat.zero_ne_one, Nat.one_ne_zero, List.isEmpty_nil, List.isEmpty_cons, List.length_map, List.isEmpty_map, beq_iff_eq, Bool.not_eq_true, reduceCtorEq, or_false, or_true, false_or, true_or, and_true, true_and, List.cons.injEq, Option.some.injEq, Sl.own.injEq, Own.lst.injEq, exists_eq', not_false_eq_true, forall_const, forall_eq, forall_eq_or_imp, decide_eq_true_eq, Bool.not_true, Bool.not_false, Bool.false_eq_true, ite_self])
local macro_rules | `(tactic| walk_at "len") => `(tactic| first | omega | (simp only [List.length_append, List.length_cons, List.length_nil, List.length_map, List.length_singleton, List.length_replicate, List.length_range, List.length_take, List.length_drop, List.length_reverse]; omega) | (simp; omega) | (simp; done))
def rd__law_kneaded (ks : List Nat) : SD :=
  (wSeq (wAsg ks 2 (wC (.int 2305843009213693907)))
  (wSeq (wAsg ks 3 (wOp (gInt fMod) (wB gIntOf (wCons (wOp gAdd (wOp gAdd (wOp gMul (wVar 0) (wC (.int 2862933555777941757))) (wOp gMul (wVar 1) (wC (.int 3037000493)))) (wC (.int 29))) wNil)) (wVar 2)))
  (wSeq (wFor (wItR1 (wCons (wC (.int 4)) wNil)) (hName ks 4) (wAsg ks 3 (wOp (gInt fMod) (wB gIntOf (wCons (wOp gAdd (wOp gAdd (wOp gAdd (wOp gMul (wVar 3) (wVar 3)) (wOp gMul (wC (.int 11)) (wVar 3))) (wOp gMul (wC (.int 4099)) (wVar 4))) (wVar 1)) wNil)) (wVar 2))))
  (wRet ks (wOp gAdd (wOp gMul (wVar 3) (wVar 2)) (wOp (gInt fMod) (wB gIntOf (wCons (wOp gAdd (wOp gMul (wVar 3) (wC (.int 69621))) (wVar 1)) wNil)) (wVar 2)))))))
def sp__law_kneaded : DSp := fun args Q _ => ∃ number lap : Int, args = [.dat (.int number), .dat (.int lap)] ∧ 0 ≤ number ∧ number < 2 ^ 64 ∧ 0 ≤ lap ∧ lap < 2 ^ 64 ∧ ∀ r : Int, 0 ≤ r → Q (.dat (.int r)) [.dat (.int number), .dat (.int lap)]
theorem nat_lt {i : Int} {n : Nat} (h0 : 0 ≤ i) (h : i < 2 ^ n) : i.natAbs < 2 ^ n := by
  have : ((i.natAbs : Nat) : Int) < ((2 ^ n : Nat) : Int) := by
    rw [Int.natAbs_of_nonneg h0]; push_cast; exact h
  exact Int.ofNat_lt.mp this
theorem mulB {i j : Int} (a b : Nat) (h0 : 0 ≤ i) (hi : i < 2 ^ a) (k0 : 0 ≤ j) (hj : j < 2 ^ b) (h1 : 0 < a) (h2 : 0 < b) (h : a + b < 1000000) : i.natAbs.log2 + j.natAbs.log2 < 1000000 := mul_ok a b (nat_lt h0 hi) (nat_lt k0 hj) h1 h2 h
theorem kneaded_loop {n l : Int} (l0 : 0 ≤ l) (DD : EndsD) (hD : ∀ (found : Int) (s4 : Sl), 0 ≤ found → found < 2 ^ 61 → DD.nx [.dat (.int n), .dat (.int l), .dat (.int 2305843009213693907), .dat (.int found), s4]) : ∀ (ds : List D) (found : Int) (s4 : Sl), (∀ d ∈ ds, ∃ i : Int, d = .int i ∧ 0 ≤ i ∧ i < 4) → 0 ≤ found → found < 2 ^ 61 →
    forL (hName [] 4) (wAsg [] 3 (wOp (gInt fMod) (wB gIntOf (wCons (wOp gAdd (wOp gAdd (wOp gAdd (wOp gMul (wVar 3) (wVar 3)) (wOp gMul (wC (.int 11)) (wVar 3))) (wOp gMul (wC (.int 4099)) (wVar 4))) (wVar 1)) wNil)) (wVar 2))) DD ds [.dat (.int n), .dat (.int l), .dat (.int 2305843009213693907), .dat (.int found), s4]
  | [], found, s4, _, h0, h1 => hD found s4 h0 h1
  | d :: ds, found, s4, hd, h0, h1 => by
    obtain ⟨i, rfl, i0, i1⟩ := hd d List.mem_cons_self
    unfold forL
    walk_at "dl"
    refine ⟨mulB 61 61 h0 h1 h0 h1 (by decide) (by decide) (by decide), mulB 61 61 (by decide) (by decide) h0 h1 (by decide) (by decide) (by decide), mulB 61 61 (by decide) (by decide) i0 (by omega) (by decide) (by decide) (by decide), by decide, ?_⟩
    exact kneaded_loop l0 DD hD ds _ _ (fun d h => hd d (List.mem_cons_of_mem _ h)) (Int.emod_nonneg _ (by decide)) (Int.lt_trans (Int.emod_lt_of_pos _ (by decide)) (by decide))
theorem pl__law_kneaded : PL 5 2 rd__law_kneaded sp__law_kneaded := fun args QD ED h => by
  obtain ⟨n, l, rfl, n0, n1, l0, l1, h⟩ := h
  refine ⟨rfl, ?_⟩
  unfold rd__law_kneaded
  walk_at "dl"
  refine ⟨mulB 64 64 n0 n1 (by decide) (by decide) (by decide) (by decide) (by decide), mulB 64 64 l0 l1 (by decide) (by decide) (by decide) (by decide) (by decide), by decide, by decide, by decide, ?_⟩
  refine kneaded_loop l0 _ (fun found s4 h0 h1 => ?_) _ _ _ (fun d hd => ?_) (Int.emod_nonneg _ (by decide)) (Int.lt_trans (Int.emod_lt_of_pos _ (by decide)) (by decide))
  · walk_at "dl"
    refine ⟨mulB 61 64 h0 h1 (by decide) (by decide) (by decide) (by decide) (by decide), mulB 61 64 h0 h1 (by decide) (by decide) (by decide) (by decide) (by decide), by decide, h _ ?_⟩
    have a1 : 0 ≤ found * 2305843009213693907 := Int.mul_nonneg h0 (by decide)
    have a2 : 0 ≤ (found * 69621 + l) % 2305843009213693907 := Int.emod_nonneg _ (by decide)
    omega
  · obtain ⟨j, hj, rfl⟩ := List.mem_map.mp hd
    have := List.mem_range.mp hj
    exact ⟨_, rfl, by omega, by omega⟩

structure Dk (n : Nat) (o : Own) : Prop where
  ex : ∃ (cells : List Int) (place amount left : Int), o = .lst [.lst (cells.map .int), .int place, .int amount, .int left] ∧ cells.length ≤ 63 ∧ (∀ c ∈ cells, 0 ≤ c) ∧ 0 ≤ place ∧ place + (n : Int) < 2 ^ 63 ∧ 0 ≤ amount ∧ 0 ≤ left
theorem Dk.mono {n m : Nat} {o : Own} (h : Dk n o) (e : m ≤ n) : Dk m o := by
  obtain ⟨c, p, a, l, h1, h2, h3, h4, h5, h6⟩ := h.ex
  exact ⟨c, p, a, l, h1, h2, h3, h4, by omega, h6⟩
def sp__law_below : DSp := fun args Q _ => ∃ (n : Nat) (o : Own) (bound : Int), args = [.own o, .dat (.int bound)] ∧ Dk (n + 1) o ∧ 0 < bound ∧ bound < 2 ^ 64 ∧ ∀ (r : Int) (o' : Own), 0 ≤ r → r < bound → Dk n o' → Q (.dat (.int r)) [.own o', .dat (.int bound)]
def rd__law_below (ks : List Nat) (sp__law_kneaded : DSp) : SD :=
  (wSeq (wIfS (wBl (wOp (gInt fLt) (wOp gIx (wVar 0) (wC (.int 3))) (wVar 1))) (wSeq (wPar ks [2, 3] (wCons (wOp gIx (wVar 0) (wC (.int 0))) (wCons (wOp gIx (wVar 0) (wC (.int 1))) wNil)))
  (wSeq (wAsg ks 4 (wIf (wBl (wOp (gEqA true) (wVar 2) (wLst ks wNil))) (wOp gIx (wVar 2) (wOp (gInt fMod) (wVar 3) (wB gLen (wCons (wVar 2) wNil)))) (wC (.int 0))))
  (wSeq (wIfS (wOr (wBl (wOp (gInt fGe) (wVar 3) (wB gLen (wCons (wVar 2) wNil)))) (wBl (wOp (gInt fLt) (wVar 4) (wOp (gInt fPow) (wC (.int 10)) (wC (.int 16)))))) (wAsg ks 4 (wCall ks sp__law_kneaded (wCons (wOp (gInt fMod) (wB gIntOf (wCons (wVar 4) wNil)) (wC (.int 982451629))) (wCons (wVar 3) wNil)))) wNext)
  (wSeq (wPut ks 0 (wC (.int 1)) (wOp gAdd (wVar 3) (wC (.int 1))))
  (wSeq (wPut ks 0 (wC (.int 2)) (wVar 4))
  (wPut ks 0 (wC (.int 3)) (wVar 4))))))) wNext)
  (wSeq (wAsg ks 5 (wOp (gInt fMod) (wB gIntOf (wCons (wOp gIx (wVar 0) (wC (.int 2))) wNil)) (wVar 1)))
  (wSeq (wPut ks 0 (wC (.int 2)) (wOp (gInt fDiv) (wOp gIx (wVar 0) (wC (.int 2))) (wVar 1)))
  (wSeq (wPut ks 0 (wC (.int 3)) (wOp (gInt fDiv) (wOp gIx (wVar 0) (wC (.int 3))) (wVar 1)))
  (wRet ks (wVar 5))))))
theorem div_nn {a b : Int} (h0 : 0 ≤ a) (hb : 0 < b) : 0 ≤ a / b := Int.ediv_nonneg h0 (Int.le_of_lt hb)
theorem bnd_ok {b : Int} (h0 : 0 < b) (h : b < 2 ^ 64) : b.natAbs.log2 < 9000 := by
  have := log2_of (nat_lt (Int.le_of_lt h0) h) (by decide)
  omega
theorem pl__law_below : PL 6 2 (fun ks => rd__law_below ks sp__law_kneaded) sp__law_below := fun args QD ED h => by
  obtain ⟨n, o, bound, rfl, hd, b0, b1, h⟩ := h
  obtain ⟨cells, place, amount, left, rfl, c0, c1, p0, p1, a0, l0⟩ := hd.ex
  refine ⟨rfl, ?_⟩
  have hb := bnd_ok b0 b1
  have fin : ∀ (am : Int) (s2 s3 s4 s5 : Sl), 0 ≤ am → QD (.dat (.int (am % bound))) [.own (.lst [.lst (cells.map .int), .int (place + 1), .int (am / bound), .int (am / bound)]), .dat (.int bound)] := fun am s2 s3 s4 s5 h0 =>
    h _ _ (Int.emod_nonneg _ (by omega)) (Int.emod_lt_of_pos _ b0) ⟨⟨cells, place + 1, am / bound, am / bound, rfl, c0, c1, by omega, by omega, div_nn h0 b0, div_nn h0 b0⟩⟩
  unfold rd__law_below
  walk_at "dl"
  split
  · -- a new amount
    split
    · rename_i hc
      have hl : 0 < (cells.length : Int) := by
        cases cells with
        | nil => exact absurd hc (by simp)
        | cons x xs => rw [List.length_cons]; omega
      refine ⟨hl, ?_⟩
      obtain ⟨v, hv, ev⟩ := atI_map (f := D.int) (Int.emod_nonneg place (by omega)) (Int.emod_lt_of_pos place hl)
      have v0 := c1 v hv
      rw [lk_eq ev]
      walk_at "dl"
      split
      · refine ⟨by decide, _, _, rfl, Int.emod_nonneg _ (by decide), Int.lt_trans (Int.emod_lt_of_pos _ (by decide)) (by decide), p0, by omega, fun r hr => ?_⟩
        walk_at "dl"
        exact ⟨b0, ⟨b0, hb⟩, ⟨b0, hb⟩, fin r .no .no .no .no hr⟩
      · refine ⟨⟨by decide, by decide, by decide⟩, ?_⟩
        split
        · refine ⟨by decide, _, _, rfl, Int.emod_nonneg _ (by decide), Int.lt_trans (Int.emod_lt_of_pos _ (by decide)) (by decide), p0, by omega, fun r hr => ?_⟩
          walk_at "dl"
          exact ⟨b0, ⟨b0, hb⟩, ⟨b0, hb⟩, fin r .no .no .no .no hr⟩
        · exact ⟨b0, ⟨b0, hb⟩, ⟨b0, hb⟩, fin v .no .no .no .no v0⟩
    · split
      · refine ⟨by decide, _, _, rfl, Int.emod_nonneg _ (by decide), Int.lt_trans (Int.emod_lt_of_pos _ (by decide)) (by decide), p0, by omega, fun r hr => ?_⟩
        walk_at "dl"
        exact ⟨b0, ⟨b0, hb⟩, ⟨b0, hb⟩, fin r .no .no .no .no hr⟩
      · refine ⟨⟨by decide, by decide, by decide⟩, ?_⟩
        split
        · refine ⟨by decide, _, _, rfl, Int.emod_nonneg _ (by decide), Int.lt_trans (Int.emod_lt_of_pos _ (by decide)) (by decide), p0, by omega, fun r hr => ?_⟩
          walk_at "dl"
          exact ⟨b0, ⟨b0, hb⟩, ⟨b0, hb⟩, fin r .no .no .no .no hr⟩
        · exact ⟨b0, ⟨b0, hb⟩, ⟨b0, hb⟩, fin 0 .no .no .no .no (Int.le_refl 0)⟩
  · refine ⟨b0, ⟨b0, hb⟩, ⟨b0, hb⟩, ?_⟩
    exact h _ _ (Int.emod_nonneg _ (by omega)) (Int.emod_lt_of_pos _ b0) ⟨⟨cells, place, amount / bound, left / bound, rfl, c0, c1, by omega, by omega, div_nn a0 b0, div_nn l0 b0⟩⟩

def sp__law_pick : DSp := fun args Q _ => ∃ (n : Nat) (o : Own) (l : List D), Dk (n + 1) o ∧ l ≠ [] ∧ l.length < 1000 ∧
  ((args = [.own o, .dat (.lst l)] ∧ ∀ (x : D) (o' : Own), x ∈ l → Dk n o' → Q (.dat x) [.own o', .dat (.lst l)]) ∨
   (args = [.own o, .own (.lst l)] ∧ ∀ (x : D) (o' : Own), x ∈ l → Dk n o' → Q (.dat x) [.own o', .own (.lst l)]))
def rd__law_pick (ks : List Nat) (sp__law_below : DSp) : SD :=
  (wRet ks (wOp gIx (wVar 1) (wCallR ks sp__law_below (wCons (wVar 0) (wCons (wB gLen (wCons (wVar 1) wNil)) wNil)))))
theorem pl__law_pick : PL 2 2 (fun ks => rd__law_pick ks sp__law_below) sp__law_pick := fun args QD ED h => by
  obtain ⟨n, o, l, hd, hl, hz, h⟩ := h
  have l0 : 0 < l.length := List.length_pos_iff.mpr hl
  rcases h with ⟨rfl, h⟩ | ⟨rfl, h⟩
  all_goals
    refine ⟨rfl, ?_⟩
    unfold rd__law_pick
    walk_at "dl"
    refine ⟨n, o, l.length, rfl, hd, by omega, by omega, fun r o' h0 h1 hd' => ?_⟩
    walk_at "dl"
    obtain ⟨x, hx, e, _⟩ := atI_mem h0 h1
    rw [lk_eq e]
    exact h x o' hx hd'

def rd__law_pot_of (ks : List Nat) : SD :=
  (wSeq (wAsg ks 2 (wLc ks (wItS ks (wSl gSl (wVar 0) wNoP (wPart (wC (.int 17))))) (hName ks 1) wYes (wB gAbs (wCons (wVar 1) wNil)) [1]))
  (wSeq (wFor (wItE ks (wCons (wSl gSl (wVar 0) (wPart (wC (.int 17))) (wPart (wC (.int 60)))) wNil)) (hTup 2 (hCons (hName ks 3) (hCons (hName ks 1) hNil))) (wPut ks 2 (wOp (gInt fMod) (wVar 3) (wC (.int 17))) (wOp gAdd (wOp gIx (wVar 2) (wOp (gInt fMod) (wVar 3) (wC (.int 17)))) (wB gAbs (wCons (wVar 1) wNil)))))
  (wRet ks (wLst ks (wCons (wVar 2) (wCons (wC (.int 0)) (wCons (wC (.int 0)) (wCons (wC (.int 0)) wNil))))))))
def sp__law_pot_of : DSp := fun args Q _ => ∃ (l : List Int), args = [.dat (.fzl (l.map .int))] ∧ l.length ≤ 63 ∧ ∀ (o : Own), Dk 1000000000000 o → Q (.own o) [.dat (.fzl (l.map .int))]
def absI (i : Int) : Int := if i < 0 then -i else i
theorem absI_nn (i : Int) : 0 ≤ absI i := by unfold absI; split <;> omega
theorem deck_comp {s0 : Sl} {Q : List D → Rho → Prop} : ∀ (xs acc : List Int), acc.length + xs.length ≤ 63 → Q ((acc ++ xs.map absI).map .int) [s0, .no, .no, .no] →
    compL [] (hName [] 1) wYes (wB gAbs (wCons (wVar 1) wNil)) [1] (xs.map .int) (acc.map .int) [s0, .no, .no, .no] Q
  | [], acc, _, q => by
    rw [List.map_nil, List.append_nil] at q
    exact q
  | x :: xs, acc, h, q => by
    rw [List.length_cons] at h
    rw [List.map_cons]
    walk_at "dl"
    refine ⟨by omega, ?_⟩
    have e : acc.map D.int ++ [D.int (if x < 0 then -x else x)] = (acc ++ [absI x]).map D.int := by rw [List.map_append]; rfl
    rw [e]
    refine deck_comp xs (acc ++ [absI x]) (by rw [List.length_append, List.length_singleton]; omega) ?_
    rw [List.map_cons] at q
    rw [List.append_assoc]
    exact q
theorem deck_loop {s0 : Sl} {DD : EndsD} (hD : ∀ (cells : List Int) (s1 s3 : Sl), cells.length ≤ 17 → (∀ c ∈ cells, 0 ≤ c) → DD.nx [s0, s1, .own (.lst (cells.map .int)), s3]) : ∀ (ys : List Int) (n : Nat) (cells : List Int) (s1 s3 : Sl), cells.length ≤ 17 → (ys ≠ [] → cells.length = 17) → (∀ c ∈ cells, 0 ≤ c) →
    forL (hTup 2 (hCons (hName [] 3) (hCons (hName [] 1) hNil))) (wPut [] 2 (wOp (gInt fMod) (wVar 3) (wC (.int 17))) (wOp gAdd (wOp gIx (wVar 2) (wOp (gInt fMod) (wVar 3) (wC (.int 17)))) (wB gAbs (wCons (wVar 1) wNil)))) DD (enumD n (ys.map .int)) [s0, s1, .own (.lst (cells.map .int)), s3]
  | [], n, cells, s1, s3, h1, h2, h3 => hD cells s1 s3 h1 h3
  | y :: ys, n, cells, s1, s3, h1, h2, h3 => by
    have hc := h2 (by simp)
    show forL _ _ DD (.wt [.int (n : Nat), .int y] :: enumD (n + 1) (ys.map .int)) _
    walk_at "dl"
    have e0 : 0 ≤ (n : Int) % 17 := Int.emod_nonneg _ (by decide)
    have e1 : (n : Int) % 17 < 17 := Int.emod_lt_of_pos _ (by decide)
    refine ⟨by decide, ?_⟩
    obtain ⟨v, hv, ev⟩ := atI_map (f := D.int) (l := cells) e0 (by rw [hc]; exact e1)
    rw [lk_eq ev]
    walk_at "dl"
    refine ⟨by decide, ?_⟩
    rw [lk_eq (ixN_int (n := cells.length) e0 (by rw [hc]; exact e1))]
    walk_at "dl"
    have e2 : (cells.map D.int).set ((n : Int) % 17).toNat (D.int (v + if y < 0 then -y else y)) = (cells.set ((n : Int) % 17).toNat (v + absI y)).map D.int := by rw [List.map_set]; rfl
    rw [e2]
    refine deck_loop hD ys (n + 1) _ _ _ (by rw [List.length_set]; exact h1) (fun _ => by rw [List.length_set]; exact hc) fun c hcm => ?_
    rcases List.mem_or_eq_of_mem_set hcm with h | h
    · exact h3 c h
    · have := h3 v hv
      have := absI_nn y
      omega
theorem pl__law_pot_of : PL 4 1 rd__law_pot_of sp__law_pot_of := fun args QD ED h => by
  obtain ⟨l, rfl, hl, h⟩ := h
  refine ⟨rfl, ?_⟩
  unfold rd__law_pot_of
  walk_at "dl"
  have e1 : cutD (l.map D.int) none (some 17) = (l.take 17).map D.int := by rw [List.map_take]; exact cutD_to 17
  rw [e1]
  refine ⟨fun o e => (by cases e), deck_comp (l.take 17) [] (by rw [List.length_take, List.length_nil]; omega) ?_⟩
  walk_at "dl"
  have e2 : cutD (l.map D.int) (some 17) (some 60) = ((l.drop 17).take 43).map D.int := by rw [List.map_take, List.map_drop]; exact cutD_mid 17 60
  rw [e2]
  refine deck_loop (fun cells s1 s3 c1 c2 => ?_) _ 0 _ _ _ (by rw [List.length_map, List.length_take]; omega) (fun h => ?_) (fun c hc => ?_)
  · walk_at "dl"
    exact h _ ⟨⟨cells, 0, 0, 0, rfl, by omega, c2, by decide, by decide, by decide, by decide⟩⟩
  · have : 17 ≤ l.length := by
      refine Nat.le_of_lt (Nat.lt_of_not_le fun hle => h ?_)
      rw [List.drop_of_length_le hle]; rfl
    rw [List.length_map, List.length_take]; omega
  · obtain ⟨x, _, rfl⟩ := List.mem_map.mp hc
    exact absI_nn x
abbrev LET : Str := "abcdefghijklmnopqrstuvwxyz"
abbrev FIG : Str := "0123456789"
def signB (c : Nat) : Bool := inS LET ⟨#[c]⟩ || inS FIG ⟨#[c]⟩
def headB : List Nat → Bool
  | c :: _ => inS LET ⟨#[c]⟩
  | [] => false
def nameS (x : Str) : Bool := decide ((1 : Int) ≤ (x.length : Int)) && (decide ((x.length : Int) ≤ 8) && (headB x.cps.toList && x.cps.toList.all signB))
def chD (c : Nat) : D := .str ⟨#[c]⟩
theorem str_len (x : Str) : x.length = x.cps.toList.length := by simp [Str.length]
theorem strsD_map : ∀ l : List Str, strsD (l.map .str) = some l
  | [] => rfl
  | i :: l => by
    rw [List.map_cons]
    show (strsD (l.map .str)).map (i :: ·) = _
    rw [strsD_map l]; rfl
theorem inS_one (y : Str) (c : Nat) : inS y ⟨#[c]⟩ = decide (c ∈ y.cps.toList) := PySem.StrLaws.found_one y c
theorem join_chars : ∀ cs : List Nat, (Txt.join "" (cs.map fun c => (⟨#[c]⟩ : Str))).cps.toList = cs := fun cs => by
  have e : Txt.join "" (cs.map fun c => (⟨#[c]⟩ : Str)) = Str.join "" (cs.map fun c => (⟨#[c]⟩ : Str)) := PySem.StrLaws.glued_eq_join _ _
  rw [e]
  induction cs with
  | nil => rfl
  | cons c cs ih =>
    cases cs with
    | nil => rfl
    | cons d cs =>
      have ih := ih (PySem.StrLaws.glued_eq_join _ _)
      rw [List.map_cons, List.map_cons] at *
      show ((⟨#[c]⟩ : Str) ++ ("" : Str) ++ Str.join "" (⟨#[d]⟩ :: cs.map _)).cps.toList = _
      show ((#[c] ++ (Str.ofString "").cps) ++ (Str.join "" (⟨#[d]⟩ :: cs.map _)).cps).toList = _
      rw [Array.toList_append, Array.toList_append, ih]
      rfl
def wordS (w : List Nat) : Str := Txt.join "" (w.map fun c => (⟨#[c]⟩ : Str))
theorem word_cps (w : List Nat) : (wordS w).cps.toList = w := join_chars w
theorem let_sign : ∀ c ∈ LET.cps.toList, inS LET ⟨#[c]⟩ = true := fun c h => by rw [inS_one]; exact decide_eq_true h
theorem let_in {c : Nat} (h : c ∈ LET.cps.toList) : signB c = true := by unfold signB; rw [let_sign c h]; rfl
structure StOk (st : List Nat) : Prop where
  hd : ∀ c r, st = c :: r → c ∈ LET.cps.toList
  al : ∀ c ∈ st, signB c = true
structure SnInv (p : Nat) (ls : List Nat) (fs : List Str) : Prop where
  ndl : ls.Nodup
  sub : ∀ c ∈ ls, c ∈ LET.cps.toList
  nd : fs.Nodup
  tip : ∀ x ∈ fs, ∃ c, x.cps.toList[p]? = some c ∧ c ∉ ls
  nm : ∀ x ∈ fs, nameS x = true
/-- the word of a stem, a letter, a place, a length -/
def wordN (st : List Nat) (p c r : Nat) : List Nat := (st.take p ++ [c] ++ st.drop (p + 1)).take (p + 1 + r)
theorem word_len {st : List Nat} {p c r : Nat} (hs : st.length = 8) (hp : p < 4) (hr : r + p < 8) : (wordN st p c r).length = p + 1 + r := by
  unfold wordN
  rw [List.length_take, List.length_append, List.length_append, List.length_take, List.length_drop, List.length_singleton]
  omega
theorem word_tip {st : List Nat} {p c r : Nat} (hs : st.length = 8) (hp : p < 4) : (wordN st p c r)[p]? = some c := by
  unfold wordN
  rw [List.getElem?_take, if_pos (by omega), List.append_assoc, List.getElem?_append_right (by rw [List.length_take]; omega), List.length_take]
  have : p - min p st.length = 0 := by omega
  rw [this]; rfl
theorem word_in {st : List Nat} {p c r d : Nat} (h : d ∈ wordN st p c r) : d = c ∨ d ∈ st := by
  have h := List.mem_of_mem_take h
  rcases List.mem_append.mp h with h | h
  · rcases List.mem_append.mp h with h | h
    · exact .inr (List.mem_of_mem_take h)
    · exact .inl (List.mem_singleton.mp h)
  · exact .inr (List.mem_of_mem_drop h)
theorem word_name {st : List Nat} {p c r : Nat} (hs : st.length = 8) (ho : StOk st) (hp : p < 4) (hr : r + p < 8) (hc : c ∈ LET.cps.toList) : nameS (wordS (wordN st p c r)) = true := by
  have hl := word_len (c := c) hs hp hr
  have e : (wordS (wordN st p c r)).cps.toList = wordN st p c r := word_cps _
  unfold nameS
  rw [str_len, e, hl, decide_eq_true (by omega), decide_eq_true (by omega), Bool.true_and, Bool.true_and, Bool.and_eq_true]
  refine ⟨?_, List.all_eq_true.mpr fun d hd => ?_⟩
  · have : ∃ d rest, wordN st p c r = d :: rest ∧ d ∈ LET.cps.toList := by
      cases p with
      | zero => exact ⟨c, _, (by unfold wordN; rw [List.take_zero, List.nil_append, List.singleton_append, Nat.add_comm, List.take_succ_cons]), hc⟩
      | succ p =>
        cases st with
        | nil => simp at hs
        | cons d st =>
          refine ⟨d, _, (by unfold wordN; rw [List.take_succ_cons, List.cons_append, List.cons_append, show p + 1 + 1 + r = (p + 1 + r) + 1 by omega, List.take_succ_cons]), ho.hd d st rfl⟩
    obtain ⟨d, rest, e2, hd⟩ := this
    rw [e2]
    exact let_sign d hd
  · rcases word_in hd with rfl | hd
    · exact let_in hc
    · exact ho.al d hd
theorem SnInv.step {p : Nat} {ls : List Nat} {fs : List Str} {st : List Nat} {i c r : Nat} (v : SnInv p ls fs) (hs : st.length = 8) (ho : StOk st) (hp : p < 4) (hr : r + p < 8) (e : ls[i]? = some c) : SnInv p (ls.eraseIdx i) (fs ++ [wordS (wordN st p c r)]) := by
  have hc : c ∈ ls := List.mem_of_getElem? e
  have pm := (erase_perm e).nodup_iff.mpr v.ndl
  rw [List.nodup_cons] at pm
  have tip : (wordS (wordN st p c r)).cps.toList[p]? = some c := by rw [word_cps]; exact word_tip hs hp
  refine ⟨pm.2, fun d hd => v.sub d (mem_erase hd), ?_, fun x hx => ?_, fun x hx => ?_⟩
  · rw [List.nodup_append]
    refine ⟨v.nd, List.nodup_cons.mpr ⟨List.not_mem_nil, List.nodup_nil⟩, fun x hx y hy => ?_⟩
    rw [List.mem_singleton.mp hy]
    rintro rfl
    obtain ⟨d, h1, h2⟩ := v.tip _ hx
    rw [tip] at h1
    cases h1
    exact h2 hc
  · rcases List.mem_append.mp hx with h | h
    · obtain ⟨d, h1, h2⟩ := v.tip x h
      exact ⟨d, h1, fun z => h2 (mem_erase z)⟩
    · rw [List.mem_singleton.mp h]
      exact ⟨c, tip, pm.1⟩
  · rcases List.mem_append.mp hx with h | h
    · exact v.nm x h
    · rw [List.mem_singleton.mp h]
      exact word_name hs ho hp hr (v.sub c hc)
end DL.Pot

set_option Elab.async false
set_option maxRecDepth 100000
set_option maxHeartbeats 4000000
/-! DL36: isinstance of an object of an own class, or data, of a built-in type. -/
namespace DL
open PySem PySem.Spec PyProof.Rows L2
end DL

set_option Elab.async false
set_option maxRecDepth 100000
set_option maxHeartbeats 4000000
/-! DL37: what an object of an own class does: x[i], x.p of a property, by the class's own defs. -/
namespace DL
open PySem PySem.Spec PyProof.Rows L2
section
variable {X : Cx} {CX : CXT} {k : Nat} {f C : Addr} {fd : FuncData} {ps : List Str} {sp : Sp} {E : XK} {a b : Expr} {ta tb : TE} {pos : Pos}
end
section
variable {X : Cx} {CX : CXT} {k : Nat} {C p g a dx : Addr} {fs : List (Str × V)} {f : Str} {fd : FuncData} {ps : List Str} {sp : Sp} {E : XK} {e : Expr} {pos : Pos} {ta : TE}
end
/-! ### readings -/
def kOi2 (C : Addr) (sp : DSp) (Q : R → Rho → Prop) (p : List D × Rho) : Prop := match p.1 with
  | [.ins C1 l1, d] => C1 = C ∧ sp [.dat (.ins C1 l1), .dat d] (kRetQ Q p.2) noX
  | _ => False
def kOi1 (ks : List Nat) (C : Addr) (sp : DSp) (Q : R → Rho → Prop) (r1 r2 : R) (ρ : Rho) : Prop := lk (frzs ks [r1, r2] ρ) (kOi2 C sp Q)
def kOi0 (ks : List Nat) (C : Addr) (sp : DSp) (tb : TD) (Q : R → Rho → Prop) (r1 : R) (ρ : Rho) : Prop := tb ρ (kOi1 ks C sp Q r1)
/-- x[i], by the class's own def -/
def wIxO (ks : List Nat) (C : Addr) (sp : DSp) (ta tb : TD) : TD := fun ρ Q => ta ρ (kOi0 ks C sp tb Q)
def kPr2 (C : Addr) (sp : DSp) (Q : R → Rho → Prop) (p : List D × Rho) : Prop := match p.1 with
  | [.ins C1 l1] => C1 = C ∧ sp [.dat (.ins C1 l1)] (kRetQ Q p.2) noX
  | _ => False
def kPr1 (ks : List Nat) (C : Addr) (sp : DSp) (Q : R → Rho → Prop) (r : R) (ρ : Rho) : Prop := lk (frzs ks [r] ρ) (kPr2 C sp Q)
/-- x.p, p a property -/
def wProp (ks : List Nat) (C : Addr) (sp : DSp) (ta : TD) : TD := fun ρ Q => ta ρ (kPr1 ks C sp Q)
section
variable {X : Cx} {b : Bas} {k : Nat} {sp : DSp} {pos : Pos} {ea eb : Expr} {ta tb : TD} {ks : List Nat} {C : Addr} {f : Str}
end
section
variable {ρ : Rho} {Q : R → Rho → Prop} {r r2 : R} {ks : List Nat} {C : Addr} {l1 : List (Str × D)} {d : D} {ta tb : TD} {sp : DSp}
theorem e_ixO : wIxO ks C sp ta tb ρ Q = ta ρ (kOi0 ks C sp tb Q) := rfl
theorem k_oi0 : kOi0 ks C sp tb Q r ρ = tb ρ (kOi1 ks C sp Q r) := rfl
theorem k_oi1 : kOi1 ks C sp Q r r2 ρ = lk (frzs ks [r, r2] ρ) (kOi2 C sp Q) := rfl
theorem k_oi2 : kOi2 C sp Q ([.ins C l1, d], ρ) = sp [.dat (.ins C l1), .dat d] (kRetQ Q ρ) noX := propext ⟨fun h => h.2, fun h => ⟨rfl, h⟩⟩
theorem e_prop : wProp ks C sp ta ρ Q = ta ρ (kPr1 ks C sp Q) := rfl
theorem k_pr1 : kPr1 ks C sp Q r ρ = lk (frzs ks [r] ρ) (kPr2 C sp Q) := rfl
theorem k_pr2 : kPr2 C sp Q ([.ins C l1], ρ) = sp [.dat (.ins C l1)] (kRetQ Q ρ) noX := propext ⟨fun h => h.2, fun h => ⟨rfl, h⟩⟩
end
end DL

set_option Elab.async false
set_option maxRecDepth 100000
set_option maxHeartbeats 4000000
/-! DU: trees recognized. -/
namespace DL
open PySem PySem.Spec PyProof.Rows L2
local macro_rules | `(tactic| walk_at "dl") => `(tactic| simp (config := {decide := false}) only [seqE_nx, seqE_rt, seqE_bk, seqE_ct, loopE_nx, loopE_rt, loopE_bk, loopE_ct, e_seq, e_next, e_break, e_cont, e_retN, e_var, q_var_d, q_var_o, e_c, con_d, con_o, con_b, conS_d, conS_o, own_l, own_d, own_i, z_d, z_n, z_t, z_w, sl_d, sl_o, frz_d, frz_o, frz_b, q_frz_d, q_frz_o, frzs_nil, frzs_cons, k_fzs, k_fz, thin_d, thin_o, thin_b, k_th, thins_nil, thins_cons, k_ths, k_ts, setR_nil, setR_cons, k_e, e_op, k_op1, k_op2, k_op3, k_op4, e_un, k_un1, k_un2, e_nil, e_cons, k_co1, k_co2, conL_nil, conL_cons, k_cl, k_cl2, e_b, k_b1, k_b2, e_tup, k_tup1, k_tup2, e_lst, k_lst1, k_lst2, e_dct0, k_ret, e_call, k_ca1, k_ca2, k_retR, e_callR, k_cr1, k_cr2, k_cr3, e_tr, k_tr1, k_tr2, k_tr3, e_bl, k_bl, e_and, k_and, e_or, k_or, e_not, k_not, e_if, k_if, e_ifS, k_ifS, e_notV, k_nv1, k_nv2, e_andV, k_av1, k_av2, e_orV, k_ov1, k_ov2, bD_bl, e_sl, k_sl1, k_sl2, k_sl3, k_sl4, e_part, k_pt1, k_pt2, e_noP, e_dget, k_ge1, k_ge1b, k_ge2, k_ge3, k_ge4, dctD_d, keyD_i, keyD_s, e_mut, q_mu0, k_mu1, k_mu2, q_mu3, k_mu4, e_put, k_pu1, k_pu2, k_pu3, k_pu4, q_pu4, k_pu5, e_aug, q_au0, k_au1, k_au2, k_au3, e_asg, k_as1, k_as2, e_par, k_pa1, k_pa2, e_unp, k_up1, k_up2, e_hName, e_hNil, e_hCons, k_hc, e_hTup, e_hWt, e_drop, k_dr, e_ret, k_rt_d, k_rt_o, k_rt_b, q_out_o, q_out_d, forL_nil, forL_cons, k_fo2, e_for, k_fo1, k_wh, e_itS, k_it1, k_it2, k_it3, walk_l, walk_f, walk_t, e_itR1, k_r11, k_r12, e_itR2, k_r21, k_r22, e_itE, k_en1, k_en2, k_en3, list_l, list_f, e_lc, k_lc, k_lcQ, compL_nil, compL_cons, k_c1, k_c2, k_c3, k_c4, e_yes, wip_nil, wip_cons, unw_nil, unw_cons, g_int, f_add, f_sub, f_mul, f_div, f_mod, f_pow, f_lt, f_le, f_gt, f_ge, add_i, add_s, add_l, add_t, mul_i, mul_l, mul_t, neg_i, ix_l, ix_t, sl_l, sl_f, sl_t, len_l, len_f, len_t, len_s, abs_i, int_i, lof_l, lof_f, lof_t, tof_l, tof_f, tof_t, dof_t, app_l, ext_t, ext_l, tru_b, tru_i, tru_l, tru_t, tru_n, augN, subN, is_bl, is_non, ixN4_0, ixN4_1, ixN4_2, ixN4_3, lk_some, lk_ite, lk_map, lk_bind, ixOf, endsF_nx, endsF_dat, endsF_own, atI_0, atI_1, atI_2, atI_3, eqA_l0, eqA_tup0, eqA_int, eqA_non, bne_f, bne_t, sizeLine_eq,
  List.cons_append, List.nil_append, List.getElem?_cons_zero, List.getElem?_cons_succ, List.set_cons_zero, List.set_cons_succ, List.length_cons, List.length_nil, List.replicate, List.take_succ_cons, List.take_zero, List.not_mem_nil, List.mem_cons, List.map_cons, List.map_nil, if_false, if_true, Option.map_some, Option.bind_some, Option.getD_some, Nat.reduceAdd, Nat.reduceSub, Nat.reduceLeDiff, Nat.reduceEqDiff, Nat.succ_ne_zero, Nat.zero_ne_one, Nat.one_ne_zero, List.isEmpty_nil, List.isEmpty_cons, List.length_map, List.isEmpty_map, beq_iff_eq, Bool.not_eq_true, reduceCtorEq, or_false, or_true, false_or, true_or, and_true, true_and, List.cons.injEq, Option.some.injEq, Sl.own.injEq, Own.lst.injEq, exists_eq', not_false_eq_true, forall_const, forall_eq, forall_eq_or_imp, decide_eq_true_eq, Bool.not_true, Bool.not_false, Bool.false_eq_true, ite_self])

/-! ### data that is looked at -/
mutual
/-- nothing but none, bools, numbers, texts, lists, tuples, empty dicts -/
def Pl : D → Prop
  | .non | .bl _ => True
  | .int i => 0 ≤ i ∧ i ≤ 9
  | .str x => PyData.strOk x = true ∧ x.length ≤ 100
  | .lst l => Pls l
  | .tup l => Pls l
  | .dct [] => True
  | .dct (_ :: _) => False
  | .ins _ _ | .fzl _ | .wt _ | .ty _ | .cls _ | .exc0 _ | .exc _ _ => False
def Pls : List D → Prop
  | [] => True
  | d :: ds => Pl d ∧ Pls ds
end
def isStr : D → Bool
  | .str _ => true
  | _ => false
theorem isi_str {d : D} (h : Pl d) : gIsi [d, .ty "str"] = some (.d (.bl (isStr d))) := by
  cases d <;> first | rfl | (exfalso; unfold Pl at h; exact h) | (rename_i l; cases l <;> first | rfl | (exfalso; unfold Pl at h; exact h))
/-! ### the number of tags -/
end DL

set_option Elab.async false
set_option maxRecDepth 100000
set_option maxHeartbeats 4000000
/-! DV: the texts of data; trees drawn; the law's own look. -/
namespace DL
open PySem PySem.Spec PyProof.Rows L2
local macro_rules | `(tactic| walk_at "dl") => `(tactic| simp (config := {decide := false}) only [seqE_nx, seqE_rt, seqE_bk, seqE_ct, loopE_nx, loopE_rt, loopE_bk, loopE_ct, e_seq, e_next, e_break, e_cont, e_retN, e_var, q_var_d, q_var_o, e_c, con_d, con_o, con_b, conS_d, conS_o, own_l, own_d, own_i, z_d, z_n, z_t, z_w, sl_d, sl_o, frz_d, frz_o, frz_b, q_frz_d, q_frz_o, frzs_nil, frzs_cons, k_fzs, k_fz, thin_d, thin_o, thin_b, k_th, thins_nil, thins_cons, k_ths, k_ts, setR_nil, setR_cons, k_e, e_op, k_op1, k_op2, k_op3, k_op4, e_un, k_un1, k_un2, e_nil, e_cons, k_co1, k_co2, conL_nil, conL_cons, k_cl, k_cl2, e_b, k_b1, k_b2, e_tup, k_tup1, k_tup2, e_lst, k_lst1, k_lst2, e_dct0, k_ret, e_call, k_ca1, k_ca2, k_retR, e_callR, k_cr1, k_cr2, k_cr3, e_tr, k_tr1, k_tr2, k_tr3, e_bl, k_bl, e_and, k_and, e_or, k_or, e_not, k_not, e_if, k_if, e_ifS, k_ifS, e_notV, k_nv1, k_nv2, e_andV, k_av1, k_av2, e_orV, k_ov1, k_ov2, bD_bl, e_sl, k_sl1, k_sl2, k_sl3, k_sl4, e_part, k_pt1, k_pt2, e_noP, e_dget, k_ge1, k_ge1b, k_ge2, k_ge3, k_ge4, dctD_d, keyD_i, keyD_s, e_mut, q_mu0, k_mu1, k_mu2, q_mu3, k_mu4, e_put, k_pu1, k_pu2, k_pu3, k_pu4, q_pu4, k_pu5, e_aug, q_au0, k_au1, k_au2, k_au3, e_asg, k_as1, k_as2, e_par, k_pa1, k_pa2, e_unp, k_up1, k_up2, e_hName, e_hNil, e_hCons, k_hc, e_hTup, e_hWt, e_drop, k_dr, e_ret, k_rt_d, k_rt_o, k_rt_b, q_out_o, q_out_d, forL_nil, forL_cons, k_fo2, e_for, k_fo1, k_wh, e_itS, k_it1, k_it2, k_it3, walk_l, walk_f, walk_t, e_itR1, k_r11, k_r12, e_itR2, k_r21, k_r22, e_itE, k_en1, k_en2, k_en3, list_l, list_f, e_lc, k_lc, k_lcQ, compL_nil, compL_cons, k_c1, k_c2, k_c3, k_c4, e_yes, wip_nil, wip_cons, unw_nil, unw_cons, g_int, f_add, f_sub, f_mul, f_div, f_mod, f_pow, f_lt, f_le, f_gt, f_ge, add_i, add_s, add_l, add_t, mul_i, mul_l, mul_t, neg_i, ix_l, ix_t, sl_l, sl_f, sl_t, len_l, len_f, len_t, len_s, abs_i, int_i, lof_l, lof_f, lof_t, tof_l, tof_f, tof_t, dof_t, app_l, ext_t, ext_l, tru_b, tru_i, tru_l, tru_t, tru_n, augN, subN, is_bl, is_non, ixN4_0, ixN4_1, ixN4_2, ixN4_3, lk_some, lk_ite, lk_map, lk_bind, ixOf, endsF_nx, endsF_dat, endsF_own, atI_0, atI_1, atI_2, atI_3, eqA_l0, eqA_tup0, eqA_int, eqA_non, bne_f, bne_t, sizeLine_eq,
  List.cons_append, List.nil_append, List.getElem?_cons_zero, List.getElem?_cons_succ, List.set_cons_zero, List.set_cons_succ, List.length_cons, List.length_nil, List.replicate, List.take_succ_cons, List.take_zero, List.not_mem_nil, List.mem_cons, List.map_cons, List.map_nil, if_false, if_true, Option.map_some, Option.bind_some, Option.getD_some, Nat.reduceAdd, Nat.reduceSub, Nat.reduceLeDiff, Nat.reduceEqDiff, Nat.succ_ne_zero, Nat.zero_ne_one, Nat.one_ne_zero, List.isEmpty_nil, List.isEmpty_cons, List.length_map, List.isEmpty_map, beq_iff_eq, Bool.not_eq_true, reduceCtorEq, or_false, or_true, false_or, true_or, and_true, true_and, List.cons.injEq, Option.some.injEq, Sl.own.injEq, Own.lst.injEq, exists_eq', not_false_eq_true, forall_const, forall_eq, forall_eq_or_imp, decide_eq_true_eq, Bool.not_true, Bool.not_false, Bool.false_eq_true, ite_self])

mutual
/-- a bound of the length of a text, of the depth -/
def tl : D → Nat
  | .str x => 10 * x.length + 2
  | .tup l => 3 + tls l
  | .lst l => 3 + tls l
  | _ => 5
def tls : List D → Nat
  | [] => 0
  | d :: ds => tl d + 2 + tls ds
end
mutual
def dp : D → Nat
  | .tup l => dps l + 1
  | .lst l => dps l + 1
  | .dct _ => 1
  | _ => 0
def dps : List D → Nat
  | [] => 0
  | d :: ds => max (dp d) (dps ds)
end
theorem textFrom_le : ∀ (ts : List Str) (k : Nat) (acc : Str), (textFrom k acc ts).length ≤ acc.length + piled ts
  | [], k, acc => by show acc.length ≤ acc.length + 0; omega
  | t :: r, k, acc => by
    have ih := textFrom_le r (k + 1) (acc ++ (if k > 0 then ", " else "" : String) ++ t)
    have e : (acc ++ (if k > 0 then ", " else "" : String) ++ t).length = acc.length + (if k > 0 then 2 else 0) + t.length := by
      rw [strLen_append, strLen_append]
      split <;> rfl
    show (textFrom (k + 1) _ r).length ≤ _
    rw [piled_cons]
    have : (if k > 0 then 2 else 0 : Nat) ≤ 2 := by split <;> omega
    omega
theorem listText_le (ts : List Str) : (listText ts).length ≤ 3 + piled ts := by
  unfold listText
  rw [strLen_append]
  have := textFrom_le ts 0 "["
  have e1 : (Str.ofString "[").length = 1 := by decide
  have e2 : (Str.ofString "]").length = 1 := by decide
  omega
theorem tupleText_le (ts : List Str) : (tupleText ts).length ≤ 3 + piled ts := by
  unfold tupleText
  rw [strLen_append, strLen_append]
  have e1 : (Str.ofString "(").length = 1 := by decide
  have e2 : (Str.ofString (if (ts.length == 1) = true then ",)" else ")")).length ≤ 2 := by split <;> decide
  by_cases h : ts = []
  · subst h
    have : (Str.join ", " ([] : List Str)).length = 0 := by decide
    have e3 : (Str.ofString (if (([] : List Str).length == 1) = true then ",)" else ")")).length = 1 := by decide
    omega
  · have := join_length_add ts h
    omega
theorem str_int9 {i : Int} (h0 : 0 ≤ i) (h9 : i ≤ 9) : (Str.ofString (toString i)).length ≤ 5 := by
  have : i = 0 ∨ i = 1 ∨ i = 2 ∨ i = 3 ∨ i = 4 ∨ i = 5 ∨ i = 6 ∨ i = 7 ∨ i = 8 ∨ i = 9 := by omega
  rcases this with rfl | rfl | rfl | rfl | rfl | rfl | rfl | rfl | rfl | rfl <;> decide
theorem strOk_lt {x : Str} (h : PyData.strOk x = true) : ∀ c ∈ x.cps.toList, c < 16 ^ 8 := fun c hc => by
  unfold PyData.strOk at h
  rw [← Array.all_toList, List.all_eq_true] at h
  have := h c hc
  have := of_decide_eq_true this
  omega
mutual
theorem pl_text : ∀ d : D, Pl d → ∃ p, pyR d = some p ∧ p.showable = true ∧ p.depth = dp d ∧ p.shown.length ≤ tl d
  | .non, _ => ⟨_, rfl, rfl, rfl, by decide⟩
  | .bl c, _ => ⟨_, rfl, rfl, rfl, by cases c <;> decide⟩
  | .int i, h => ⟨_, rfl, by
      have h : 0 ≤ i ∧ i ≤ 9 := by unfold Pl at h; exact h
      have : i = 0 ∨ i = 1 ∨ i = 2 ∨ i = 3 ∨ i = 4 ∨ i = 5 ∨ i = 6 ∨ i = 7 ∨ i = 8 ∨ i = 9 := by omega
      rcases this with rfl | rfl | rfl | rfl | rfl | rfl | rfl | rfl | rfl | rfl <;> decide +kernel, rfl, by
      have h : 0 ≤ i ∧ i ≤ 9 := by unfold Pl at h; exact h
      exact str_int9 h.1 h.2⟩
  | .str x, h => ⟨_, rfl, rfl, rfl, by
      have h : PyData.strOk x = true ∧ x.length ≤ 100 := by unfold Pl at h; exact h
      exact PySem.StrLaws.reprText_len x (strOk_lt h.1)⟩
  | .lst l, h => by
    obtain ⟨ps, h1, h2, h3, h4⟩ := pls_text l (by unfold Pl at h; exact h)
    refine ⟨.list ps, by unfold pyR; rw [h1]; rfl, by unfold PyData.showable; exact h2, ?_, ?_⟩
    · show PyData.depthAll ps + 1 = dps l + 1
      rw [h3]
    · have := listText_le (PyData.shownAll ps)
      show (listText (PyData.shownAll ps)).length ≤ 3 + tls l
      omega
  | .tup l, h => by
    obtain ⟨ps, h1, h2, h3, h4⟩ := pls_text l (by unfold Pl at h; exact h)
    refine ⟨.tuple ps, by unfold pyR; rw [h1]; rfl, by unfold PyData.showable; exact h2, ?_, ?_⟩
    · show PyData.depthAll ps + 1 = dps l + 1
      rw [h3]
    · have := tupleText_le (PyData.shownAll ps)
      show (tupleText (PyData.shownAll ps)).length ≤ 3 + tls l
      omega
  | .dct [], _ => ⟨.dict [], by unfold pyR; rfl, rfl, rfl, by decide⟩
  | .dct (_ :: _), h => by unfold Pl at h; exact h.elim
  | .ins _ _, h => by unfold Pl at h; exact h.elim
  | .fzl _, h => by unfold Pl at h; exact h.elim
  | .wt _, h => by unfold Pl at h; exact h.elim
  | .ty _, h => by unfold Pl at h; exact h.elim
  | .cls _, h => by unfold Pl at h; exact h.elim
theorem pls_text : ∀ l : List D, Pls l → ∃ ps, pyRs l = some ps ∧ PyData.showableAll ps = true ∧ PyData.depthAll ps = dps l ∧ piled (PyData.shownAll ps) ≤ tls l
  | [], _ => ⟨[], rfl, rfl, rfl, Nat.le_refl _⟩
  | d :: l, h => by
    have h : Pl d ∧ Pls l := by unfold Pls at h; exact h
    obtain ⟨p, a1, a2, a3, a4⟩ := pl_text d h.1
    obtain ⟨ps, b1, b2, b3, b4⟩ := pls_text l h.2
    refine ⟨p :: ps, by unfold pyRs; rw [a1, b1]; rfl, by unfold PyData.showableAll; rw [a2, b2]; rfl, ?_, ?_⟩
    · show max p.depth (PyData.depthAll ps) = max (dp d) (dps l)
      rw [a3, b3]
    · show piled (p.shown :: PyData.shownAll ps) ≤ tl d + 2 + tls l
      rw [piled_cons]
      omega
end
end DL

set_option Elab.async false
set_option maxRecDepth 100000
set_option maxHeartbeats 4000000
/-! DW: trees drawn, the law's own look. -/
namespace DL
open PySem PySem.Spec PyProof.Rows L2
local macro_rules | `(tactic| walk_at "dl") => `(tactic| simp (config := {decide := false}) only [seqE_nx, seqE_rt, seqE_bk, seqE_ct, loopE_nx, loopE_rt, loopE_bk, loopE_ct, e_seq, e_next, e_break, e_cont, e_retN, e_var, q_var_d, q_var_o, e_c, con_d, con_o, con_b, conS_d, conS_o, own_l, own_d, own_i, z_d, z_n, z_t, z_w, sl_d, sl_o, frz_d, frz_o, frz_b, q_frz_d, q_frz_o, frzs_nil, frzs_cons, k_fzs, k_fz, thin_d, thin_o, thin_b, k_th, thins_nil, thins_cons, k_ths, k_ts, setR_nil, setR_cons, k_e, e_op, k_op1, k_op2, k_op3, k_op4, e_un, k_un1, k_un2, e_nil, e_cons, k_co1, k_co2, conL_nil, conL_cons, k_cl, k_cl2, e_b, k_b1, k_b2, e_tup, k_tup1, k_tup2, e_lst, k_lst1, k_lst2, e_dct0, k_ret, e_call, k_ca1, k_ca2, k_retR, e_callR, k_cr1, k_cr2, k_cr3, e_tr, k_tr1, k_tr2, k_tr3, e_bl, k_bl, e_and, k_and, e_or, k_or, e_not, k_not, e_if, k_if, e_ifS, k_ifS, e_notV, k_nv1, k_nv2, e_andV, k_av1, k_av2, e_orV, k_ov1, k_ov2, bD_bl, e_sl, k_sl1, k_sl2, k_sl3, k_sl4, e_part, k_pt1, k_pt2, e_noP, e_dget, k_ge1, k_ge1b, k_ge2, k_ge3, k_ge4, dctD_d, keyD_i, keyD_s, e_mut, q_mu0, k_mu1, k_mu2, q_mu3, k_mu4, e_put, k_pu1, k_pu2, k_pu3, k_pu4, q_pu4, k_pu5, e_aug, q_au0, k_au1, k_au2, k_au3, e_asg, k_as1, k_as2, e_par, k_pa1, k_pa2, e_unp, k_up1, k_up2, e_hName, e_hNil, e_hCons, k_hc, e_hTup, e_hWt, e_drop, k_dr, e_ret, k_rt_d, k_rt_o, k_rt_b, q_out_o, q_out_d, forL_nil, forL_cons, k_fo2, e_for, k_fo1, k_wh, e_itS, k_it1, k_it2, k_it3, walk_l, walk_f, walk_t, e_itR1, k_r11, k_r12, e_itR2, k_r21, k_r22, e_itE, k_en1, k_en2, k_en3, list_l, list_f, e_lc, k_lc, k_lcQ, compL_nil, compL_cons, k_c1, k_c2, k_c3, k_c4, e_yes, wip_nil, wip_cons, unw_nil, unw_cons, g_int, f_add, f_sub, f_mul, f_div, f_mod, f_pow, f_lt, f_le, f_gt, f_ge, add_i, add_s, add_l, add_t, mul_i, mul_l, mul_t, neg_i, ix_l, ix_t, sl_l, sl_f, sl_t, len_l, len_f, len_t, len_s, abs_i, int_i, lof_l, lof_f, lof_t, tof_l, tof_f, tof_t, dof_t, app_l, ext_t, ext_l, tru_b, tru_i, tru_l, tru_t, tru_n, augN, subN, is_bl, is_non, ixN4_0, ixN4_1, ixN4_2, ixN4_3, lk_some, lk_ite, lk_map, lk_bind, ixOf, endsF_nx, endsF_dat, endsF_own, atI_0, atI_1, atI_2, atI_3, eqA_l0, eqA_tup0, eqA_int, eqA_non, bne_f, bne_t, sizeLine_eq,
  List.cons_append, List.nil_append, List.getElem?_cons_zero, List.getElem?_cons_succ, List.set_cons_zero, List.set_cons_succ, List.length_cons, List.length_nil, List.replicate, List.take_succ_cons, List.take_zero, List.not_mem_nil, List.mem_cons, List.map_cons, List.map_nil, if_false, if_true, Option.map_some, Option.bind_some, Option.getD_some, Nat.reduceAdd, Nat.reduceSub, Nat.reduceLeDiff, Nat.reduceEqDiff, Nat.succ_ne_zero, Nat.zero_ne_one, Nat.one_ne_zero, List.isEmpty_nil, List.isEmpty_cons, List.length_map, List.isEmpty_map, beq_iff_eq, Bool.not_eq_true, reduceCtorEq, or_false, or_true, false_or, true_or, and_true, true_and, List.cons.injEq, Option.some.injEq, Sl.own.injEq, Own.lst.injEq, exists_eq', not_false_eq_true, forall_const, forall_eq, forall_eq_or_imp, decide_eq_true_eq, Bool.not_true, Bool.not_false, Bool.false_eq_true, ite_self])

/-! ### a drawn tree -/
/-! ### the law's own look -/
end DL

set_option Elab.async false
set_option maxRecDepth 100000
set_option maxHeartbeats 4000000
/-! DS: texts of data, of any numbers that are shown. -/
namespace DL
open PySem PySem.Spec PyProof.Rows L2
theorem pls_cons {d : D} {l : List D} : Pls (d :: l) = (Pl d ∧ Pls l) := by rw [Pls]
theorem pls_nil : Pls [] = True := by rw [Pls]
theorem pl_tup {l : List D} : Pl (.tup l) = Pls l := by rw [Pl]
theorem pl_str {x : Str} : Pl (.str x) = (PyData.strOk x = true ∧ x.length ≤ 100) := by rw [Pl]
theorem Tx.mono {d : D} {n m n' m' : Nat} (h : Tx d n m) (h1 : n ≤ n') (h2 : m ≤ m') : Tx d n' m' := by
  obtain ⟨p, a1, a2, a3, a4⟩ := h.ex
  exact ⟨p, a1, a2, by omega, by omega⟩
theorem Txs.mono {l : List D} {n m n' m' : Nat} (h : Txs l n m) (h1 : n ≤ n') (h2 : m ≤ m') : Txs l n' m' := by
  obtain ⟨p, a1, a2, a3, a4⟩ := h.ex
  exact ⟨p, a1, a2, by omega, by omega⟩
theorem tx_int {i : Int} (h : i.natAbs.log2 < 1920) : Tx (.int i) 0 1921 := ⟨_, rfl, decide_eq_true h, Nat.le_refl _, int_text_len_1921 h⟩
theorem tx_pl {d : D} (h : Pl d) : Tx d (dp d) (tl d) := by
  obtain ⟨p, a1, a2, a3, a4⟩ := pl_text d h
  exact ⟨p, a1, a2, by omega, a4⟩
theorem txs_nil : Txs [] 0 0 := ⟨[], rfl, rfl, Nat.le_refl _, Nat.le_refl _⟩
theorem txs_cons {d : D} {l : List D} {n m n' m' k : Nat} (h : Tx d n m) (t : Txs l n' m') (h1 : n ≤ k) (h2 : n' ≤ k) : Txs (d :: l) k (m + 2 + m') := by
  obtain ⟨p, a1, a2, a3, a4⟩ := h.ex
  obtain ⟨ps, b1, b2, b3, b4⟩ := t.ex
  refine ⟨p :: ps, by unfold pyRs; rw [a1, b1]; rfl, by unfold PyData.showableAll; rw [a2, b2]; rfl, ?_, ?_⟩
  · show max p.depth (PyData.depthAll ps) ≤ k
    omega
  · show piled (p.shown :: PyData.shownAll ps) ≤ _
    rw [piled_cons]
    omega
theorem tx_tup {l : List D} {n m : Nat} (h : Txs l n m) : Tx (.tup l) (n + 1) (m + 3) := by
  obtain ⟨ps, b1, b2, b3, b4⟩ := h.ex
  refine ⟨.tuple ps, by unfold pyR; rw [b1]; rfl, by unfold PyData.showable; exact b2, ?_, ?_⟩
  · show PyData.depthAll ps + 1 ≤ _
    omega
  · have := tupleText_le (PyData.shownAll ps)
    show (tupleText (PyData.shownAll ps)).length ≤ _
    omega
theorem tx_lst {l : List D} {n m : Nat} (h : Txs l n m) : Tx (.lst l) (n + 1) (m + 3) := by
  obtain ⟨ps, b1, b2, b3, b4⟩ := h.ex
  refine ⟨.list ps, by unfold pyR; rw [b1]; rfl, by unfold PyData.showable; exact b2, ?_, ?_⟩
  · show PyData.depthAll ps + 1 ≤ _
    omega
  · have := listText_le (PyData.shownAll ps)
    show (listText (PyData.shownAll ps)).length ≤ _
    omega
theorem tx_repr {d : D} {n m : Nat} (h : Tx d n m) (h1 : n ≤ 60) (h2 : m ≤ 16777216) : ∃ x, gRepr [d] = some (.d (.str x)) := by
  obtain ⟨p, a1, a2, a3, a4⟩ := h.ex
  refine ⟨p.shown, ?_⟩
  unfold gRepr textD
  dsimp only
  rw [a1]
  show Option.map _ (if p.showable = true ∧ p.depth ≤ 60 ∧ p.shown.length ≤ sizeLine then some p.shown else none) = _
  rw [if_pos ⟨a2, by omega, by rw [sizeLine_eq]; omega⟩]
  rfl
end DL

set_option Elab.async false
set_option maxRecDepth 100000
set_option maxHeartbeats 4000000
/-! DQ: layouts made; factors without zeros at the end. -/
namespace DL
open PySem PySem.Spec PyProof.Rows L2
local macro_rules | `(tactic| walk_at "dl") => `(tactic| simp (config := {decide := false}) only [e_fld, k_fl1, k_fl2, k_fl3, insD_i, e_setF, k_sf1, k_sf2, q_sf, e_make, k_mk1, k_mk2, k_mk3, e_never, e_callRR, k_rr1, k_rr2, k_rr3, k_rr4, e_itEA, k_ea1, k_ea2, e_itT2, k_i1, k_i2, e_m1, k_m1, k_m1b, k_m2, k_m3, k_m4, e_itZ, k_z1, e_scLen, k_sc, k_scQ, compT_nil, compT_cons, k_t1, k_t2, k_t2b, k_t3, e_chain, k_ch, k_ch0, k_ch1, k_ch2, k_ch3, k_ch4, k_ch5, k_ch6, rev_l, rev_f, rev_t, clear_l, lista_s, max_2, min_2, inA_s, ix_s, mulA_si, seqE_nx, seqE_rt, seqE_bk, seqE_ct, loopE_nx, loopE_rt, loopE_bk, loopE_ct, e_seq, e_next, e_break, e_cont, e_retN, e_var, q_var_d, q_var_o, e_c, con_d, con_o, con_b, conS_d, conS_o, own_l, own_d, own_i, z_d, z_n, z_t, z_w, sl_d, sl_o, frz_d, frz_o, frz_b, q_frz_d, q_frz_o, frzs_nil, frzs_cons, k_fzs, k_fz, thin_d, thin_o, thin_b, k_th, thins_nil, thins_cons, k_ths, k_ts, setR_nil, setR_cons, k_e, e_op, k_op1, k_op2, k_op3, k_op4, e_un, k_un1, k_un2, e_nil, e_cons, k_co1, k_co2, conL_nil, conL_cons, k_cl, k_cl2, e_b, k_b1, k_b2, e_tup, k_tup1, k_tup2, e_lst, k_lst1, k_lst2, e_dct0, k_ret, e_call, k_ca1, k_ca2, k_retR, e_callR, k_cr1, k_cr2, k_cr3, e_tr, k_tr1, k_tr2, k_tr3, e_bl, k_bl, e_and, k_and, e_or, k_or, e_not, k_not, e_if, k_if, e_ifS, k_ifS, e_notV, k_nv1, k_nv2, e_andV, k_av1, k_av2, e_orV, k_ov1, k_ov2, bD_bl, e_sl, k_sl1, k_sl2, k_sl3, k_sl4, e_part, k_pt1, k_pt2, e_noP, e_dget, k_ge1, k_ge1b, k_ge2, k_ge3, k_ge4, dctD_d, keyD_i, keyD_s, e_mut, q_mu0, k_mu1, k_mu2, q_mu3, k_mu4, e_put, k_pu1, k_pu2, k_pu3, k_pu4, q_pu4, k_pu5, e_aug, q_au0, k_au1, k_au2, k_au3, e_asg, k_as1, k_as2, e_par, k_pa1, k_pa2, e_unp, k_up1, k_up2, e_hName, e_hNil, e_hCons, k_hc, e_hTup, e_hWt, e_drop, k_dr, e_ret, k_rt_d, k_rt_o, k_rt_b, q_out_o, q_out_d, forL_nil, forL_cons, k_fo2, e_for, k_fo1, k_wh, e_itS, k_it1, k_it2, k_it3, walk_l, walk_f, walk_t, e_itR1, k_r11, k_r12, e_itR2, k_r21, k_r22, e_itE, k_en1, k_en2, k_en3, list_l, list_f, e_lc, k_lc, k_lcQ, compL_nil, compL_cons, k_c1, k_c2, k_c3, k_c4, e_yes, wip_nil, wip_cons, unw_nil, unw_cons, g_int, f_add, f_sub, f_mul, f_div, f_mod, f_pow, f_lt, f_le, f_gt, f_ge, add_i, add_s, add_l, add_t, mul_i, mul_l, mul_t, neg_i, ix_l, ix_t, sl_l, sl_f, sl_t, len_l, len_f, len_t, len_s, abs_i, int_i, lof_l, lof_f, lof_t, tof_l, tof_f, tof_t, dof_t, app_l, ext_t, ext_l, tru_b, tru_i, tru_l, tru_t, tru_n, augN, subN, is_bl, is_non, ixN4_0, ixN4_1, ixN4_2, ixN4_3, lk_some, lk_ite, lk_map, lk_bind, ixOf, endsF_nx, endsF_dat, endsF_own, atI_0, atI_1, atI_2, atI_3, eqA_l0, eqA_tup0, eqA_int, eqA_non, bne_f, bne_t, sizeLine_eq,
  List.cons_append, List.nil_append, List.getElem?_cons_zero, List.getElem?_cons_succ, List.set_cons_zero, List.set_cons_succ, List.length_cons, List.length_nil, List.replicate, List.take_succ_cons, List.take_zero, List.not_mem_nil, List.mem_cons, List.map_cons, List.map_nil, if_false, if_true, Option.map_some, Option.bind_some, Option.getD_some, Nat.reduceAdd, Nat.reduceSub, Nat.reduceLeDiff, Nat.reduceEqDiff, Nat.succ_ne_zero, Nat.zero_ne_one, Nat.one_ne_zero, List.isEmpty_nil, List.isEmpty_cons, List.length_map, List.isEmpty_map, beq_iff_eq, Bool.not_eq_true, reduceCtorEq, or_false, or_true, false_or, true_or, and_true, true_and, List.cons.injEq, Option.some.injEq, Sl.own.injEq, Own.lst.injEq, exists_eq', not_false_eq_true, forall_const, forall_eq, forall_eq_or_imp, decide_eq_true_eq, Bool.not_true, Bool.not_false, Bool.false_eq_true, ite_self])

end DL

set_option Elab.async false
set_option maxRecDepth 100000
set_option maxHeartbeats 4000000
/-! DR: records, by the program and by the law. -/
namespace DL
open PySem PySem.Spec PyProof.Rows L2
local macro_rules | `(tactic| walk_at "dl") => `(tactic| simp (config := {decide := false}) only [e_fld, k_fl1, k_fl2, k_fl3, insD_i, e_setF, k_sf1, k_sf2, q_sf, e_make, k_mk1, k_mk2, k_mk3, e_never, e_callRR, k_rr1, k_rr2, k_rr3, k_rr4, e_itEA, k_ea1, k_ea2, e_itT2, k_i1, k_i2, e_m1, k_m1, k_m1b, k_m2, k_m3, k_m4, e_itZ, k_z1, e_scLen, k_sc, k_scQ, compT_nil, compT_cons, k_t1, k_t2, k_t2b, k_t3, e_chain, k_ch, k_ch0, k_ch1, k_ch2, k_ch3, k_ch4, k_ch5, k_ch6, rev_l, rev_f, rev_t, clear_l, lista_s, max_2, min_2, inA_s, ix_s, mulA_si, seqE_nx, seqE_rt, seqE_bk, seqE_ct, loopE_nx, loopE_rt, loopE_bk, loopE_ct, e_seq, e_next, e_break, e_cont, e_retN, e_var, q_var_d, q_var_o, e_c, con_d, con_o, con_b, conS_d, conS_o, own_l, own_d, own_i, z_d, z_n, z_t, z_w, sl_d, sl_o, frz_d, frz_o, frz_b, q_frz_d, q_frz_o, frzs_nil, frzs_cons, k_fzs, k_fz, thin_d, thin_o, thin_b, k_th, thins_nil, thins_cons, k_ths, k_ts, setR_nil, setR_cons, k_e, e_op, k_op1, k_op2, k_op3, k_op4, e_un, k_un1, k_un2, e_nil, e_cons, k_co1, k_co2, conL_nil, conL_cons, k_cl, k_cl2, e_b, k_b1, k_b2, e_tup, k_tup1, k_tup2, e_lst, k_lst1, k_lst2, e_dct0, k_ret, e_call, k_ca1, k_ca2, k_retR, e_callR, k_cr1, k_cr2, k_cr3, e_tr, k_tr1, k_tr2, k_tr3, e_bl, k_bl, e_and, k_and, e_or, k_or, e_not, k_not, e_if, k_if, e_ifS, k_ifS, e_notV, k_nv1, k_nv2, e_andV, k_av1, k_av2, e_orV, k_ov1, k_ov2, bD_bl, e_sl, k_sl1, k_sl2, k_sl3, k_sl4, e_part, k_pt1, k_pt2, e_noP, e_dget, k_ge1, k_ge1b, k_ge2, k_ge3, k_ge4, dctD_d, keyD_i, keyD_s, e_mut, q_mu0, k_mu1, k_mu2, q_mu3, k_mu4, e_put, k_pu1, k_pu2, k_pu3, k_pu4, q_pu4, k_pu5, e_aug, q_au0, k_au1, k_au2, k_au3, e_asg, k_as1, k_as2, e_par, k_pa1, k_pa2, e_unp, k_up1, k_up2, e_hName, e_hNil, e_hCons, k_hc, e_hTup, e_hWt, e_drop, k_dr, e_ret, k_rt_d, k_rt_o, k_rt_b, q_out_o, q_out_d, forL_nil, forL_cons, k_fo2, e_for, k_fo1, k_wh, e_itS, k_it1, k_it2, k_it3, walk_l, walk_f, walk_t, e_itR1, k_r11, k_r12, e_itR2, k_r21, k_r22, e_itE, k_en1, k_en2, k_en3, list_l, list_f, e_lc, k_lc, k_lcQ, compL_nil, compL_cons, k_c1, k_c2, k_c3, k_c4, e_yes, wip_nil, wip_cons, unw_nil, unw_cons, g_int, f_add, f_sub, f_mul, f_div, f_mod, f_pow, f_lt, f_le, f_gt, f_ge, add_i, add_s, add_l, add_t, mul_i, mul_l, mul_t, neg_i, ix_l, ix_t, sl_l, sl_f, sl_t, len_l, len_f, len_t, len_s, abs_i, int_i, lof_l, lof_f, lof_t, tof_l, tof_f, tof_t, dof_t, app_l, ext_t, ext_l, tru_b, tru_i, tru_l, tru_t, tru_n, augN, subN, is_bl, is_non, ixN4_0, ixN4_1, ixN4_2, ixN4_3, lk_some, lk_ite, lk_map, lk_bind, ixOf, endsF_nx, endsF_dat, endsF_own, atI_0, atI_1, atI_2, atI_3, eqA_l0, eqA_tup0, eqA_int, eqA_non, bne_f, bne_t, sizeLine_eq,
  List.cons_append, List.nil_append, List.getElem?_cons_zero, List.getElem?_cons_succ, List.set_cons_zero, List.set_cons_succ, List.length_cons, List.length_nil, List.replicate, List.take_succ_cons, List.take_zero, List.not_mem_nil, List.mem_cons, List.map_cons, List.map_nil, if_false, if_true, Option.map_some, Option.bind_some, Option.getD_some, Nat.reduceAdd, Nat.reduceSub, Nat.reduceLeDiff, Nat.reduceEqDiff, Nat.succ_ne_zero, Nat.zero_ne_one, Nat.one_ne_zero, List.isEmpty_nil, List.isEmpty_cons, List.length_map, List.isEmpty_map, beq_iff_eq, Bool.not_eq_true, reduceCtorEq, or_false, or_true, false_or, true_or, and_true, true_and, List.cons.injEq, Option.some.injEq, Sl.own.injEq, Own.lst.injEq, exists_eq', not_false_eq_true, forall_const, forall_eq, forall_eq_or_imp, decide_eq_true_eq, Bool.not_true, Bool.not_false, Bool.false_eq_true, ite_self])

/-! ### by the law -/
end DL

set_option Elab.async false
set_option maxRecDepth 100000
set_option maxHeartbeats 4000000
/-! DL38: what an object of an own class does: len(x), bool(x), v in x, x(..), by the class's own defs. -/
namespace DL
open PySem PySem.Spec PyProof.Rows L2
/-! ### what a special method answers, told on -/
def tlLen : D → Option D
  | .int n => if 0 ≤ n ∧ n < 2 ^ 63 then some (.int n) else none
  | _ => none
def tlBl (neg : Bool) : D → Option D
  | .bl b => some (.bl (neg != b))
  | _ => none
section
variable {prog : Program} {w : World} {A : Around} {E : Value → Shared → Prop} {s : Shared}
end
section
variable {X : Cx} {CX : CXT} {k : Nat} {f C : Addr} {fd : FuncData} {ps : List Str} {sp : Sp} {E : XK}
end
/-! ### readings -/
def kTl2 (Q : R → Rho → Prop) (ρ : Rho) (d : D) : Prop := Q (.dat d) ρ
def kTl1 (tl : D → Option D) (Q : R → Rho → Prop) (ρ : Rho) (r : R) (_ : List Sl) : Prop := match r with
  | .dat d => lk (tl d) (kTl2 Q ρ)
  | _ => False
def kOw2 (C : Addr) (sp : DSp) (tl : D → Option D) (Q : R → Rho → Prop) (p : List D × Rho) : Prop := match p.1 with
  | [.ins C1 l1] => C1 = C ∧ sp [.dat (.ins C1 l1)] (kTl1 tl Q p.2) noX
  | _ => False
def kOw1 (ks : List Nat) (C : Addr) (sp : DSp) (tl : D → Option D) (Q : R → Rho → Prop) (rs : List R) (ρ : Rho) : Prop := lk (frzs ks rs ρ) (kOw2 C sp tl Q)
/-- len(x), bool(x), by the class's own def -/
def wOwn1 (ks : List Nat) (C : Addr) (sp : DSp) (tl : D → Option D) (t : TAD) : TD := fun ρ Q => t ρ (kOw1 ks C sp tl Q)
def kIo2 (C : Addr) (sp : DSp) (neg : Bool) (Q : R → Rho → Prop) (p : List D × Rho) : Prop := match p.1 with
  | [d, .ins C1 l1] => C1 = C ∧ sp [.dat (.ins C1 l1), .dat d] (kTl1 (tlBl neg) Q p.2) noX
  | _ => False
def kIo1 (ks : List Nat) (C : Addr) (sp : DSp) (neg : Bool) (Q : R → Rho → Prop) (r1 r2 : R) (ρ : Rho) : Prop := lk (frzs ks [r1, r2] ρ) (kIo2 C sp neg Q)
def kIo0 (ks : List Nat) (C : Addr) (sp : DSp) (neg : Bool) (tb : TD) (Q : R → Rho → Prop) (r1 : R) (ρ : Rho) : Prop := tb ρ (kIo1 ks C sp neg Q r1)
/-- v in x, v not in x, by the class's own def -/
def wInO (ks : List Nat) (neg : Bool) (C : Addr) (sp : DSp) (ta tb : TD) : TD := fun ρ Q => ta ρ (kIo0 ks C sp neg tb Q)
def kCf2 (C : Addr) (sp : DSp) (Q : R → Rho → Prop) (p : List D × Rho) : Prop := match p.1 with
  | .ins C1 l1 :: ds => C1 = C ∧ sp (.dat (.ins C1 l1) :: ds.map .dat) (kRetQ Q p.2) noX
  | _ => False
def kCf1 (ks : List Nat) (C : Addr) (sp : DSp) (Q : R → Rho → Prop) (r : R) (rs : List R) (ρ : Rho) : Prop := lk (frzs ks (r :: rs) ρ) (kCf2 C sp Q)
def refSl : Option Sl → Bool
  | some (.own (.ins _ _)) => true
  | _ => false
def refR (ρ : Rho) : R → Bool
  | .dat (.ins _ _) => true
  | .bor i => refSl ρ[i]?
  | _ => false
def kCf0 (ks : List Nat) (C : Addr) (sp : DSp) (t : TAD) (Q : R → Rho → Prop) (r : R) (ρ : Rho) : Prop := refR ρ r = true ∧ t ρ (kCf1 ks C sp Q r)
/-- x(..), x an object that a name holds, by the class's own def -/
def wCallO (ks : List Nat) (C : Addr) (sp : DSp) (tf : TD) (t : TAD) : TD := fun ρ Q => tf ρ (kCf0 ks C sp t Q)
section
variable {X : Cx} {b : Bas} {k : Nat} {sp : DSp} {p pos : Pos} {ea eb fe e : Expr} {es : List Expr} {ta tb tf : TD} {t : TAD} {ks : List Nat} {C : Addr}
end
section
variable {ρ : Rho} {Q : R → Rho → Prop} {r r2 : R} {rs : List R} {ks : List Nat} {C : Addr} {l1 : List (Str × D)} {d : D} {ds : List D} {ta tb tf : TD} {t : TAD} {sp : DSp} {neg b : Bool} {n : Int} {i : Nat} {tl : D → Option D} {a : List Sl}
theorem e_own1 : wOwn1 ks C sp tl t ρ Q = t ρ (kOw1 ks C sp tl Q) := rfl
theorem k_ow1 : kOw1 ks C sp tl Q rs ρ = lk (frzs ks rs ρ) (kOw2 C sp tl Q) := rfl
theorem k_ow2 : kOw2 C sp tl Q ([.ins C l1], ρ) = sp [.dat (.ins C l1)] (kTl1 tl Q ρ) noX := propext ⟨fun h => h.2, fun h => ⟨rfl, h⟩⟩
theorem k_tlb : kTl1 (tlBl neg) Q ρ (.dat (.bl b)) a = Q (.dat (.bl (neg != b))) ρ := by
  show lk (tlBl neg (.bl b)) (kTl2 Q ρ) = _
  rw [lk_eq (show tlBl neg (.bl b) = some (.bl (neg != b)) from rfl)]
  rfl
theorem k_tln : kTl1 tlLen Q ρ (.dat (.int n)) a = ((0 ≤ n ∧ n < 2 ^ 63) ∧ Q (.dat (.int n)) ρ) := by
  show lk (tlLen (.int n)) (kTl2 Q ρ) = _
  by_cases hn : 0 ≤ n ∧ n < 2 ^ 63
  · rw [lk_eq (show tlLen (.int n) = some (.int n) from if_pos hn)]
    exact propext ⟨fun h => ⟨hn, h⟩, fun h => h.2⟩
  · refine propext ⟨fun h => ?_, fun h => (hn h.1).elim⟩
    obtain ⟨x, e, h⟩ := lk_get h
    rw [show tlLen (.int n) = none from if_neg hn] at e
    cases e
theorem e_inO : wInO ks neg C sp ta tb ρ Q = ta ρ (kIo0 ks C sp neg tb Q) := rfl
theorem k_io0 : kIo0 ks C sp neg tb Q r ρ = tb ρ (kIo1 ks C sp neg Q r) := rfl
theorem k_io1 : kIo1 ks C sp neg Q r r2 ρ = lk (frzs ks [r, r2] ρ) (kIo2 C sp neg Q) := rfl
theorem k_io2 : kIo2 C sp neg Q ([d, .ins C l1], ρ) = sp [.dat (.ins C l1), .dat d] (kTl1 (tlBl neg) Q ρ) noX := propext ⟨fun h => h.2, fun h => ⟨rfl, h⟩⟩
theorem e_callO : wCallO ks C sp tf t ρ Q = tf ρ (kCf0 ks C sp t Q) := rfl
theorem k_cf0d : kCf0 ks C sp t Q (.dat (.ins C l1)) ρ = t ρ (kCf1 ks C sp Q (.dat (.ins C l1))) := propext ⟨fun h => h.2, fun h => ⟨rfl, h⟩⟩
theorem k_cf0b : kCf0 ks C sp t Q (.bor i) ρ = (refSl ρ[i]? = true ∧ t ρ (kCf1 ks C sp Q (.bor i))) := rfl
theorem k_refSl : (refSl (some (.own (.ins C l1))) = true) = True := eq_true rfl
theorem k_cf1 : kCf1 ks C sp Q r rs ρ = lk (frzs ks (r :: rs) ρ) (kCf2 C sp Q) := rfl
theorem k_cf2 : kCf2 C sp Q (.ins C l1 :: ds, ρ) = sp (.dat (.ins C l1) :: ds.map .dat) (kRetQ Q ρ) noX := propext ⟨fun h => h.2, fun h => ⟨rfl, h⟩⟩
end
end DL

set_option Elab.async false
set_option maxRecDepth 100000
set_option maxHeartbeats 4000000
/-! DE: the end: the law's own call, from its promise over data. -/
namespace DL
open PySem PySem.Spec PyProof.Rows L2

/-- where a def of the module's top stands -/
structure AtM (K : PySem.W.Frag) (mg : Str → Option Value) (x : Str) (st : Stmt) : Prop where
  fn : ∃ (f : Addr) (fd : FuncData), Fun K x x st f fd ∧ mg x = some (.ref f) ∧ PySem.W.keepIn K (.ref f) = true
/-- the facts of it that the written part tells -/
structure AtK (K : PySem.W.Frag) (x : Str) (st : Stmt) : Prop where
  ex : ∃ (f : Addr) (oc : Value) (od an : Option Addr) (osl : Array (Option Value)) (kV doc pm cdv ct : Value), PySem.W.nsIn K mainGlobals x = some (some (.ref f)) ∧
    K.lookup f = some ⟨oc, od, .func (PySem.W.fnOf x x (defArgs st) (defBody st) (defScope st) .none kV doc pm an cdv ct), osl⟩ ∧ PySem.W.codeIn K cdv x = true ∧ PySem.W.keepIn K (.ref f) = true
theorem atK_mk {K : PySem.W.Frag} {x : Str} {st : Stmt} {f : Addr} {oc : Value} {od an : Option Addr} {osl : Array (Option Value)} {kV doc pm cdv ct : Value} (a : PySem.W.nsIn K mainGlobals x = some (some (.ref f)))
    (l : K.lookup f = some ⟨oc, od, .func (PySem.W.fnOf x x (defArgs st) (defBody st) (defScope st) .none kV doc pm an cdv ct), osl⟩) (c : PySem.W.codeIn K cdv x = true) (k : PySem.W.keepIn K (.ref f) = true) : AtK K x st := ⟨f, oc, od, an, osl, kV, doc, pm, cdv, ct, a, l, c, k⟩
theorem AtK.m {K : PySem.W.Frag} {mg : Str → Option Value} {h : Heap} {x : Str} {st : Stmt} (t : AtK K x st) (X : K.In h) (G : h.Ns mainGlobals mg) : AtM K mg x st := by
  obtain ⟨f, oc, od, an, osl, kV, doc, pm, cdv, ct, a, l, c, k⟩ := t.ex
  exact ⟨f, _, fun_mk (st := st) l c k, PySem.W.mg_of X G a, k⟩
/-- an abstract heap that knows the script alone, if anything -/
def scrH (K : PySem.W.Frag) (a : Addr) (vs : List Value) (ns : List Int) : Hp := fun b => if b = a ∧ K.lookup a = none then some (.frz { cls := .type "list", data := .seq vs.toArray } (.lst (ns.map V.int))) else none
section
variable {P : Program} {w : World} {K : PySem.W.Frag} {mg mb : Str → Option Value} {k : Nat} {fa a : Addr} {fd : FuncData} {x : Str} {sp : Sp} {st : Shared} {vs : List Value} {ns : List Int}
theorem scr_some {b : Addr} {u : HO} (h : scrH K a vs ns b = some u) : b = a ∧ K.lookup a = none ∧ u = .frz { cls := .type "list", data := .seq vs.toArray } (.lst (ns.map V.int)) := by
  unfold scrH at h
  split at h
  · rename_i c
    cases h
    exact ⟨c.1, c.2, rfl⟩
  · cases h
theorem scr_sql (kin : K.In st.heap) (obj : st.heap.get? a = some { cls := .type "list", data := .seq vs.toArray }) (ia : IntsAre vs ns) (lz : ns.length ≤ sizeLine) : SqL K (scrH K a vs ns) a (ns.map V.int) := by
  cases q : K.lookup a with
  | none =>
    refine .inl (.inr ⟨{ cls := .type "list", data := .seq vs.toArray }, ?_⟩)
    unfold scrH
    rw [if_pos ⟨rfl, q⟩]
  | some o =>
    have e2 := kin a o q
    rw [obj] at e2
    cases e2
    exact .inr ⟨_, vs.toArray, _, q, rfl, rfl, rfl, by rw [List.size_toArray, ia.length]; exact lz, by simpa using vals_ints ia⟩
/-- the law's call -/
theorem law_run (kin : K.In st.heap) (gl : st.heap.Ns mainGlobals mg) (bl : st.heap.Ns builtinsNs mb) (bx : ∀ y : Str, y ≠ "__name__" → mb y = bootBuiltins y) (nl : st.heap.NoLimit) (gz : st.gens = #[])
    (obj : st.heap.get? a = some { cls := .type "list", data := .seq vs.toArray }) (ia : IntsAre vs ns) (lz : ns.length ≤ sizeLine) (rm : Room k callerA)
    (sm : ModsOk st.heap) (F : ∀ base : Heap, K.In base → base.Ns mainGlobals mg → ModsOk base → FnG P w K mg base CX0 k fa fd [x] sp) (bd : ∀ (s : Shared) (u : Value), BindsTo s fd ⟨[u], []⟩ [(x, u)])
    (want : ∀ H : Hp, SqL K H a (ns.map V.int) → sp [.ref a] H (fun v _ => v = .bl true) fun _ _ _ => False) :
    codeAny (model P w) callerA (.call (.ref fa) ⟨[.ref a], []⟩) (fun r s' => r = .ok (.ret (.bool true)) ∧ OldK st.heap s'.heap ∧ s'.os = st.os ∧ AllBare s'.gens) st := by
  have hH : ∀ {b : Addr} {u : HO}, scrH K a vs ns b = some u → b = a ∧ K.lookup a = none ∧ u = .frz { cls := .type "list", data := .seq vs.toArray } (.lst (ns.map V.int)) := fun h => scr_some h
  have off : ∀ {b : Addr} {o : Obj}, st.heap.get? b = some o → (b = a → K.lookup a ≠ none) → (hidT st.heap (scrH K a vs ns)).get? b = some o := fun {b o} e n => hidT_get e (by
    cases q : scrH K a vs ns b with
    | none => rfl
    | some u => exact absurd (hH q).2.1 (n (hH q).1))
  have offD : ∀ {b : Addr} {o : Obj} {es : Array DictEntry} {ep : Nat}, st.heap.get? b = some o → o.data = .dict es ep → (hidT st.heap (scrH K a vs ns)).get? b = some o := fun {b o es ep} e d => off e fun z => by
    subst z
    rw [obj] at e
    cases e
    cases (show Data.seq vs.toArray _ = Data.dict es ep from d)
  have offN : ∀ {b : Addr} {m : Str → Option Value}, st.heap.Ns b m → (hidT st.heap (scrH K a vs ns)).Ns b m := fun {b m} h => by
    obtain ⟨o, es, ep, e, d, r⟩ := h
    exact ⟨o, es, ep, offD e d, d, r⟩
  have kin2 : K.In (hidT st.heap (scrH K a vs ns)) := fun b o e => off (kin b o e) fun z => by
    subst z
    rw [e]
    exact fun z => by cases z
  have mods : Mod K mg (hidT st.heap (scrH K a vs ns)) := by
    refine ⟨kin2, offN gl, ⟨mb, offN bl, bx⟩, ?_⟩
    obtain ⟨mc, h1, h2⟩ := nl
    exact ⟨mc, offN h1, h2⟩
  have held : HOk P w (scrH K a vs ns) st.heap := fun b u h => by
    obtain ⟨rfl, _, rfl⟩ := hH h
    exact ⟨obj, by rw [List.length_map]; exact lz, vs, _, vals_ints ia, obj⟩
  have env : Env0 P w K mg (hidT st.heap (scrH K a vs ns)) callerA [] st (scrH K a vs ns) := by
    refine ⟨rfl, mods, fun b o e => of_hidT e, Nat.le_of_eq (hidT_size _ _), trivial, fun b hb => ?_, held, .of_eq gz⟩
    cases hb
  have run := (F _ kin2 (offN gl) (sm.imp fun _ => offN)).run callerA [] st _ ⟨[.ref a], []⟩ [.ref a] [.ref a] _ _ rm rfl env (bd st (.ref a)) (.cons rfl .nil) (want _ (scr_sql kin obj ia lz))
  refine codeAny_mono run fun r s' h => ?_
  match r, h with
  | .error e, h => exact h.elim
  | .ok .next, h => exact h.elim
  | .ok .brk, h => exact h.elim
  | .ok .cont, h => exact h.elim
  | .ok (.ret u), h =>
    obtain ⟨v, H', h1, h2, un, held', rv, q⟩ := h
    have q2 : v = .bl true := q
    subst q2
    cases (show u = Value.bool true from rv)
    refine ⟨rfl, OldK.of_keep fun b o e => ?_, h1, h2⟩
    cases z : scrH K a vs ns b with
    | none => exact un.keep b o e z (fun y => by cases y) (by simp)
    | some u =>
      obtain ⟨rfl, _, rfl⟩ := hH z
      rw [obj] at e
      cases e
      exact (held' b _ (un.frzs b _ _ z)).1
end
/-- what k_head leaves (case hc), from the law's promise over data -/
theorem walk_law {l : PySem.W.OpenLaw} {n k : Nat} {q : Program} {loose : List Str} {XP : (Str → Option Value) → Heap → Prop} {YP : World → Heap → Prop} {d : DefRec} {K : Params → PySem.W.Frag} {sp : DSp} {x : Str} (hn : l.most = some n) (hn2 : n ≤ sizeLine) (hdf : d.params.defaults = [])
    (rm : Room k callerA) (imp : importsNone q = true) (hY : ∀ (w : World) (h : Heap), YP w h → (K w.params).In h)
    (F : ∀ (w : World) (mg : Str → Option Value) (fa : Addr) (h : Heap), (K w.params).In h → h.Ns mainGlobals mg → mg d.name = some (.ref fa) →
      ∃ fd : FuncData, (∀ (s : Shared) (u : Value), BindsTo s fd ⟨[u], []⟩ [(x, u)]) ∧ ∀ base : Heap, (K w.params).In base → base.Ns mainGlobals mg → ModsOk base → FnG l.prog w (K w.params) mg base CX0 k fa fd [x] (toSp (K w.params) sp))
    (want : ∀ (ns : List Int) (Q : R → List Sl → Prop), ns.length ≤ n → (∀ z ∈ ns, Builtin.Int.intBits z ≤ 1048576) → (∀ a, Q (.dat (.bl true)) a) → sp [.dat (.fzl (ns.map .int))] Q fun _ _ => False) :
    PySem.W.WalkO q loose XP YP l.row.toRowW d [] (fun f vs => PySem.call f vs) := by
  refine Att.attach_callB hn hdf ?_
  intro w s0 st mg mb fa o pm cd doc a vs ns gr yp _ _ _ hm obj ia hl hbits gz
  have kin := hY w _ yp
  obtain ⟨fd, bd, FF⟩ := F w mg fa _ kin gr.T.g hm
  have sm : ModsOk st.heap := by
    obtain ⟨mm, h1, _⟩ := (gr.T.seer imp).mods
    exact ⟨mm, h1⟩
  refine law_run kin gr.T.g gr.T.b gr.T.builtins gr.T.nolimit gz obj ia (Nat.le_trans hl hn2) rm sm FF bd fun H hs => ?_
  have ra : RpA (K w.params) H (ns.map V.int) (ns.map .int) := by
    have : ∀ m : List Int, RpA (K w.params) H (m.map V.int) (m.map .int) := fun m => by
      induction m with
      | nil => exact .nil
      | cons i m ih => exact .cons (.int i) ih
    exact this ns
  refine ⟨H, [.dat (.fzl (ns.map .int))], fun r _ => r = .dat (.bl true), _, Ex.refl H, .cons (.fzl hs ra) .nil, by exact List.nodup_nil, want ns _ hl hbits (fun _ => rfl), fun v H' G' r args' _ rr e => ?_, fun _ _ _ _ _ _ _ e => e.elim⟩
  subst e
  cases (show Rp (K w.params) G' v (.bl true) from rr)
  rfl
end DL

set_option Elab.async false
set_option maxRecDepth 100000
set_option maxHeartbeats 4000000
/-! DF: what of the text a class must have. -/
namespace DL
open PySem PySem.Spec PyProof.Rows L2
/-- a class of the module's top -/
structure ClsK (K : PySem.W.Frag) (x : Str) (C : Addr) : Prop where
  at_ : PySem.W.nsIn K mainGlobals x = some (some (.ref C))
  pg : PySem.W.plainGet K C Str.empty = true
  hd : PySem.W.hasDictIn K C = true
  po : PySem.W.plainOver K C = true
  sa : PySem.W.findIn K (.ref C) "__setattr__" = some (some (.builtin "object.__setattr__"))
  mks : PySem.W.makesIn K C = true
  kc : PySem.W.keepIn K (.ref C) = true
theorem ClsK.cls {K : PySem.W.Frag} {x : Str} {C : Addr} (c : ClsK K x C) : Cls K C := ⟨c.pg, c.hd, c.po, c.sa⟩
end DL

set_option Elab.async false
set_option maxRecDepth 100000
set_option maxHeartbeats 4000000
/-! DF2: what of the text an own ==, a static method, a dict of the top must have. -/
namespace DL
open PySem PySem.Spec PyProof.Rows L2
/-- an own == of a class -/
structure EqAt (K : PySem.W.Frag) (C : Addr) (qual : Str) (st : Stmt) : Prop where
  ex : ∃ (f : Addr) (fd : FuncData), Fun K "__eq__" qual st f fd ∧ CmpC K C f
section
variable {P : Program} {w : World} {K : PySem.W.Frag} {mg : Str → Option Value} {base : Heap} {k : Nat} {C : Addr} {x m qual : Str} {st : Stmt} {N ps : List Str} {sp : DSp} {rd : List Nat → SD}
end
end DL

set_option Elab.async false
set_option maxRecDepth 100000
set_option maxHeartbeats 4000000
/-! DL39: static methods with a star parameter. -/
namespace DL
open PySem PySem.Spec PyProof.Rows L2
section
variable {P : Program} {w : World} {K : PySem.W.Frag} {mg : Str → Option Value} {base : Heap} {k : Nat} {m qual pv : Str} {st : Stmt} {f : Addr} {fd : FuncData} {N : List Str} {sp : DSp} {rd : List Nat → SD}
end
/-! ### C.m(..), a static method with a star parameter -/
section
variable {P : Program} {w : World} {K : PySem.W.Frag} {mg : Str → Option Value} {base : Heap} {k : Nat} {C : Addr} {x m qual pv : Str} {st : Stmt} {N : List Str} {sp : DSp} {rd : List Nat → SD}
end
section
variable {X : Cx} {k : Nat} {f C pr : Addr} {mc : Value} {sp : Sp} {E : XK} {x m : Str} {p apos pos : Pos} {e : Expr} {es : List Expr} {t : TA} {pl : Sem Bool}
end
def kCw2 (sp : DSp) (Q : R → Rho → Prop) (p : List D × Rho) : Prop := p.1.length ≤ sizeLine ∧ sp [.dat (.tup p.1)] (kRetQ Q p.2) noX
def kCw1 (ks : List Nat) (sp : DSp) (Q : R → Rho → Prop) (rs : List R) (ρ : Rho) : Prop := lk (frzs ks rs ρ) (kCw2 sp Q)
/-- a call of a def with a star parameter -/
def wCallW (ks : List Nat) (sp : DSp) (t : TAD) : TD := fun ρ Q => t ρ (kCw1 ks sp Q)
section
variable {X : Cx} {b : Bas} {k : Nat} {sp : DSp} {x m : Str} {p apos pos : Pos} {e : Expr} {es : List Expr} {t : TAD} {ks : List Nat} {pl : Sem Bool}
end
section
variable {ρ : Rho} {Q : R → Rho → Prop} {rs : List R} {ks : List Nat} {ds : List D} {t : TAD} {sp : DSp}
theorem e_callW : wCallW ks sp t ρ Q = t ρ (kCw1 ks sp Q) := rfl
theorem k_cw1 : kCw1 ks sp Q rs ρ = lk (frzs ks rs ρ) (kCw2 sp Q) := rfl
theorem k_cw2 : kCw2 sp Q (ds, ρ) = (ds.length ≤ sizeLine ∧ sp [.dat (.tup ds)] (kRetQ Q ρ) noX) := rfl
end
end DL

set_option Elab.async false
set_option maxRecDepth 100000
set_option maxHeartbeats 4000000
/-! DL40: l.reverse(). -/
namespace DL
open PySem PySem.Spec PyProof.Rows L2
end DL

set_option Elab.async false
set_option maxRecDepth 100000
set_option maxHeartbeats 4000000
/-! DL41: zip of a list and a tuple (any two sources of items). -/
namespace DL
open PySem PySem.Spec PyProof.Rows L2
section
variable {it l c : Addr} {P : Nat → Heap → Prop} {C : Array Value → Heap → Prop}
end
section
variable {prog : Program} {w : World} {A : Around} {E : Value → Shared → Prop} {s : Shared} {z TI TO i1 i2 l1 l2 : Addr} {P1 P2 : Nat → Heap → Prop} {C1 C2 : Array Value → Heap → Prop} {k : Nat} {xs ys : Array Value} {x y a b : Value}
end
section
variable {prog : Program} {w : World} {A : Around} {E : Value → Shared → Prop} {s : Shared} {z TI TO i1 i2 l1 l2 : Addr} {P1 P2 : Nat → Heap → Prop} {C1 C2 : Array Value → Heap → Prop} {k : Nat} {xs ys : Array Value} {x y a b : Value}
end
end DL

set_option Elab.async false
set_option maxRecDepth 100000
set_option maxHeartbeats 4000000
/-! DL42: for a, b in zip(list, tuple). -/
namespace DL
open PySem PySem.Spec PyProof.Rows L2
def tupO : D → Option (List D)
  | .tup l => some l
  | .lst l => some l
  | _ => none
def kZm4 (Q : List D → Rho → Prop) (ρ : Rho) (l m : List D) : Prop := Q (zipD l m) ρ
def kZm3 (y : D) (Q : List D → Rho → Prop) (ρ : Rho) (l : List D) : Prop := lk (tupO y) (kZm4 Q ρ l)
def kZm2 (Q : List D → Rho → Prop) (p : List D × Rho) : Prop := match p.1 with
  | [x, y] => lk (listD x) (kZm3 y Q p.2)
  | _ => False
def kZm1 (ks : List Nat) (Q : List D → Rho → Prop) (rs : List R) (ρ : Rho) : Prop := lk (frzs ks rs ρ) (kZm2 Q)
/-- zip of a list and a tuple -/
def wItZM (ks : List Nat) (t : TAD) : TID := fun ρ Q => t ρ (kZm1 ks Q)
section
variable {ρ : Rho} {Q : List D → Rho → Prop} {rs : List R} {ks : List Nat} {x y : D} {l m : List D} {t : TAD}
theorem e_itZM : wItZM ks t ρ Q = t ρ (kZm1 ks Q) := rfl
theorem k_zm1 : kZm1 ks Q rs ρ = lk (frzs ks rs ρ) (kZm2 Q) := rfl
theorem k_zm2 : kZm2 Q ([x, y], ρ) = lk (listD x) (kZm3 y Q ρ) := rfl
theorem k_zm3 : kZm3 (.tup m) Q ρ l = Q (zipD l m) ρ := by
  unfold kZm3
  rw [lk_eq (show tupO (.tup m) = some m from rfl)]
  rfl
theorem k_zm2l : kZm2 Q ([.lst l, .tup m], ρ) = Q (zipD l m) ρ := by
  rw [k_zm2, lk_eq (show listD (.lst l) = some l from rfl), k_zm3]
theorem k_zm2ll : kZm2 Q ([.lst l, .lst m], ρ) = Q (zipD l m) ρ := by
  rw [k_zm2, lk_eq (show listD (.lst l) = some l from rfl)]
  unfold kZm3
  rw [lk_eq (show tupO (.lst m) = some m from rfl)]
  rfl
end
end DL

set_option Elab.async false
set_option maxRecDepth 100000
set_option maxHeartbeats 4000000
/-! DL43: three names at once. -/
namespace DL
open PySem PySem.Spec PyProof.Rows L2
section
variable {X : Cx} {b : Bas} {ks : List Nat} {tl : TAD} {pos : Pos}
end
end DL

set_option Elab.async false
set_option maxRecDepth 100000
set_option maxHeartbeats 4000000
/-! DL44: != of two lists of own objects, all of them equal. -/
namespace DL
open PySem PySem.SeqAt GQ
open AutoSeq1 (wpAny_loadPart')
open MeetsSeq MeetsSeq2 MeetsSeq3 SeqRoads2
section
variable {prog : Program} {w : World} {A : Around} {R : Result → Shared → Prop}
end
end DL
namespace DL
open PySem PySem.Spec PyProof.Rows L2
/-- two objects of the class that its own == says to be equal -/
def SameO (K : PySem.W.Frag) (C : Addr) (sp : DSp) (x y : V) (H : Hp) : Prop := ∃ G l1 l2, Ex G H ∧ Rp K G x (.ins C l1) ∧ Rp K G y (.ins C l2) ∧ sp [.dat (.ins C l1), .dat (.ins C l2)] (fun r _ => r = .dat (.bl true)) noX
theorem SameO.up {K : PySem.W.Frag} {C : Addr} {sp : DSp} {x y : V} {H H' : Hp} (h : SameO K C sp x y H) (e : Ext H H') : SameO K C sp x y H' := by
  obtain ⟨G, l1, l2, h1, h2⟩ := h
  exact ⟨G, l1, l2, fun a o q => e a o (h1 a o q), h2⟩
section
variable {X : Cx} {CX : CXT} {k : Nat} {f C : Addr} {fd : FuncData} {ps : List Str} {sp : DSp} {E : XK}
end
/-- two lists of objects, each pair equal -/
def SameD (C : Addr) (sp : DSp) : List D → List D → Prop
  | [], [] => True
  | .ins C1 l1 :: r, .ins C2 l2 :: t => C1 = C ∧ C2 = C ∧ sp [.dat (.ins C l1), .dat (.ins C l2)] (fun r _ => r = .dat (.bl true)) noX ∧ SameD C sp r t
  | _, _ => False
def kNl2 (C : Addr) (sp : DSp) (Q : R → Rho → Prop) (p : List D × Rho) : Prop := match p.1 with
  | [.lst l1, .lst l2] => SameD C sp l1 l2 ∧ Q (.dat (.bl false)) p.2
  | _ => False
def kNl1 (ks : List Nat) (C : Addr) (sp : DSp) (Q : R → Rho → Prop) (r1 r2 : R) (ρ : Rho) : Prop := lk (frzs ks [r1, r2] ρ) (kNl2 C sp Q)
def kNl0 (ks : List Nat) (C : Addr) (sp : DSp) (tb : TD) (Q : R → Rho → Prop) (r1 : R) (ρ : Rho) : Prop := tb ρ (kNl1 ks C sp Q r1)
/-- a != b, two lists of objects of the class, equal in pairs -/
def wNeL (ks : List Nat) (C : Addr) (sp : DSp) (ta tb : TD) : TD := fun ρ Q => ta ρ (kNl0 ks C sp tb Q)
section
variable {X : Cx} {b : Bas} {k : Nat} {sp : DSp} {pos : Pos} {ea eb : Expr} {ta tb : TD} {ks : List Nat} {C : Addr}
end
section
variable {ρ : Rho} {Q : R → Rho → Prop} {r r2 : R} {ks : List Nat} {C : Addr} {l1 l2 : List D} {ta tb : TD} {sp : DSp}
theorem e_neL : wNeL ks C sp ta tb ρ Q = ta ρ (kNl0 ks C sp tb Q) := rfl
theorem k_nl0 : kNl0 ks C sp tb Q r ρ = tb ρ (kNl1 ks C sp Q r) := rfl
theorem k_nl1 : kNl1 ks C sp Q r r2 ρ = lk (frzs ks [r, r2] ρ) (kNl2 C sp Q) := rfl
theorem k_nl2 : kNl2 C sp Q ([.lst l1, .lst l2], ρ) = (SameD C sp l1 l2 ∧ Q (.dat (.bl false)) ρ) := rfl
end
end DL

set_option Elab.async false
set_option maxRecDepth 100000
set_option maxHeartbeats 4000000
/-! DL46: a second name for an object that a name holds. -/
namespace DL
open PySem PySem.Spec PyProof.Rows L2
/-- slot j stands for the object at a, which slot i holds -/
def Bas.al (b : Bas) (j i : Nat) (a : Addr) : Bas := { b with kp := (j, a) :: (i, a) :: b.kp, ali := j :: b.ali }
section
variable {K : PySem.W.Frag} {b : Bas} {σ : L2.St} {H G : Hp} {ρ : Rho} {i j : Nat} {a : Addr}
theorem Rel.unal (w : Rel K (b.al j i a) σ H G ρ) (h : ∀ p ∈ b.kp, p.1 ≠ j) : Rel K b σ H G ρ where
  sub := w.sub
  bas := w.bas
  gro := w.gro
  prt := w.prt
  len := w.len
  dat := w.dat
  own := w.own
  dis := w.dis
  kep := fun p hp => by
    obtain ⟨z1, z0⟩ := w.kep p (List.mem_cons_of_mem _ (List.mem_cons_of_mem _ hp))
    refine ⟨z1, ?_⟩
    rcases z0 with z0 | z0
    · rcases List.mem_cons.mp z0 with e | e
      · exact absurd e (h p hp)
      · exact .inl e
    · exact .inr z0
theorem Rel.setNo {v : V} (w : Rel K b σ H G ρ) (hk : ∀ p ∈ b.kp, p.1 ≠ j) : Rel K b (σ.set j (some v)) H G (ρ.set j .no) := by
  refine ⟨w.sub, w.bas, w.gro, w.prt, by rw [List.length_set, List.length_set]; exact w.len, fun k d hj => ?_, fun k o hj => ?_, fun k l o1 o2 c h1 h2 h3 h4 => ?_, fun p hp => ?_⟩
  · rcases set_at hj with ⟨rfl, e, hl⟩ | ⟨hn, hj⟩
    · cases e
    · rw [set_ne hn]; exact w.dat k d hj
  · rcases set_at hj with ⟨rfl, e, hl⟩ | ⟨hn, hj⟩
    · cases e
    · rw [set_ne hn]; exact w.own k o hj
  · rcases set_at h1 with ⟨rfl, e, hl⟩ | ⟨hn, h1⟩
    · cases e
    · rcases set_at h2 with ⟨rfl, e', hl'⟩ | ⟨hn', h2⟩
      · cases e'
      · rw [set_ne hn] at h3
        rw [set_ne hn'] at h4
        exact w.dis k l o1 o2 c h1 h2 h3 h4
  · obtain ⟨z1, z0⟩ := w.kep p hp
    refine ⟨by rw [set_ne (hk p hp)]; exact z1, ?_⟩
    rcases z0 with z0 | ⟨o, z2⟩
    · exact .inl z0
    · exact .inr ⟨o, by rw [set_ne (hk p hp)]; exact z2⟩
theorem Rel.al {o : Own} (w : Rel K b σ H G ρ) (hi : ρ[i]? = some (.own o)) (ha : σ[i]? = some (some (.ref a))) (hij : i ≠ j) (hj : j < ρ.length) (hk : ∀ p ∈ b.kp, p.1 ≠ j) : Rel K (b.al j i a) (σ.set j (some (.ref a))) H G (ρ.set j .no) := by
  have w' := w.setNo (v := .ref a) hk
  have hl : j < σ.length := by rw [w.len]; exact hj
  exact ⟨w'.sub, w'.bas, w'.gro, w'.prt, w'.len, w'.dat, w'.own, w'.dis, fun p hp => by
    rcases List.mem_cons.mp hp with rfl | hp
    · exact ⟨set_eq hl, .inl List.mem_cons_self⟩
    · rcases List.mem_cons.mp hp with rfl | hp
      · exact ⟨by rw [set_ne hij]; exact ha, .inr ⟨o, by rw [set_ne hij]; exact hi⟩⟩
      · obtain ⟨z1, z0⟩ := w'.kep p hp
        exact ⟨z1, z0.imp (fun z => List.mem_cons_of_mem _ z) id⟩⟩
end
/-- from a ground to a weaker one -/
structure Weak (K : PySem.W.Frag) (b1 b2 : Bas) : Prop where
  rel : ∀ {σ : L2.St} {H G : Hp} {ρ : Rho}, Rel K b1 σ H G ρ → Rel K b2 σ H G ρ
  B : b2.B = b1.B
theorem Weak.al {K : PySem.W.Frag} {b : Bas} {j i : Nat} {a : Addr} (h : ∀ p ∈ b.kp, p.1 ≠ j) : Weak K (b.al j i a) b := ⟨fun w => w.unal h, rfl⟩
theorem Rv.ground {K : PySem.W.Frag} {b1 b2 : Bas} (e : b2.B = b1.B) {σ : L2.St} {J H G : Hp} {ρ : Rho} {v : V} {r : R} (q : Rv K b1 σ J H G ρ v r) : Rv K b2 σ J H G ρ v r := by
  cases r with
  | dat d => exact q
  | bor i => exact q
  | own o =>
    obtain ⟨a, h, rfl, h1, h2, h3, h4⟩ := q
    exact ⟨a, h, rfl, h1, h2, by rw [e]; exact h3, h4⟩
section
variable {X : Cx} {b b1 b2 : Bas} {st : Stmt} {rest : List Stmt} {s t u : SD} {pos : Pos}
/-- x = y if t else e, y an object that its name holds: from there on x is another name of it; or else as ever -/
def wAli (ks : List Nat) (j i : Nat) (tt : TTD) (tb : TD) (tA tB : SD) : SD := fun DD ρ => (j ∉ ks ∧ i ≠ j) ∧ tt ρ fun c ρ1 => if c = true then (∃ o, ρ1[i]? = some (.own o)) ∧ j < ρ1.length ∧ tA DD (ρ1.set j .no) else wSeq (wAsg ks j tb) tB DD ρ1
/-- the same, what follows said once -/
def wAliF (ks : List Nat) (j i : Nat) (tt : TTD) (tb : TD) (fA fB : SD → SD) (T : SD) : SD := wAli ks j i tt tb (fA T) (fB T)
end
/-! ### from the head -/
def kAli (ks : List Nat) (j i : Nat) (tb : TD) (tA tB : SD) (DD : EndsD) (c : Bool) (ρ1 : Rho) : Prop := if c = true then (∃ o, ρ1[i]? = some (.own o)) ∧ j < ρ1.length ∧ tA DD (ρ1.set j .no) else wSeq (wAsg ks j tb) tB DD ρ1
section
variable {ks : List Nat} {j i : Nat} {tt : TTD} {tb : TD} {tA tB : SD} {DD : EndsD} {ρ : Rho} {c : Bool}
theorem e_aliF {fA fB : SD → SD} : wAliF ks j i tt tb fA fB tA DD ρ = ((j ∉ ks ∧ i ≠ j) ∧ tt ρ (kAli ks j i tb (fA tA) (fB tA) DD)) := rfl
theorem e_ali : wAli ks j i tt tb tA tB DD ρ = ((j ∉ ks ∧ i ≠ j) ∧ tt ρ (kAli ks j i tb tA tB DD)) := rfl
theorem k_ali : kAli ks j i tb tA tB DD c ρ = if c = true then (∃ o, ρ[i]? = some (.own o)) ∧ j < ρ.length ∧ tA DD (ρ.set j .no) else wSeq (wAsg ks j tb) tB DD ρ := rfl
end
end DL

set_option Elab.async false
set_option maxRecDepth 100000
set_option maxHeartbeats 4000000
/-! DL47: calls to which a name's own list is lent: what comes back holds no list. -/
namespace DL
open PySem PySem.Spec PyProof.Rows L2
mutual
/-- no list, dict or object within -/
def lfB : D → Bool
  | .lst _ | .dct _ | .ins _ _ | .fzl _ | .exc0 _ | .exc _ _ => false
  | .tup l => lfsB l
  | .wt l => lfsB l
  | _ => true
def lfsB : List D → Bool
  | [] => true
  | d :: ds => lfB d && lfsB ds
end
section
variable {K : PySem.W.Frag} {G : Hp} {a : Addr} {xs0 : List V}
def lffB : List (Str × D) → Bool
  | [] => true
  | (_, d) :: l => lfB d && lffB l
def lfR : R → Bool
  | .dat d => lfB d
  | .own (.lst l) => lfsB l
  | .own (.ins _ l) => lffB l
  | _ => false
end
/-- the arguments, slot i's list lent -/
def brwD (d : D) (i : Nat) : List R → Option (List D)
  | [] => some []
  | .dat x :: r => (brwD d i r).map (x :: ·)
  | .bor j :: r => if j = i then (brwD d i r).map (d :: ·) else none
  | .own _ :: _ => none
def kBw2 (sp : DSp) (Q : R → Rho → Prop) (ρ : Rho) (ds : List D) : Prop := sp (ds.map .dat) (fun r _ => lfR r = true ∧ Q r ρ) noX
def kBw1 (i : Nat) (sp : DSp) (Q : R → Rho → Prop) (rs : List R) (ρ : Rho) : Prop := match ρ[i]? with
  | some (.own (.lst l)) => lk (brwD (.lst l) i rs) (kBw2 sp Q ρ)
  | _ => False
/-- f(..), slot i's list lent -/
def wCallB (i : Nat) (sp : DSp) (t : TAD) : TD := fun ρ Q => t ρ (kBw1 i sp Q)
def kMb2 (C : Addr) (sp : DSp) (Q : R → Rho → Prop) (ρ : Rho) (ds : List D) : Prop := sp (.own (.ins C []) :: ds.map .dat) (fun r args' => match r, args' with
  | .dat .non, .own (.ins C' l) :: _ => lffB l = true ∧ Q (.own (.ins C' l)) ρ
  | _, _ => False) noX
def kMb1 (i : Nat) (C : Addr) (sp : DSp) (Q : R → Rho → Prop) (rs : List R) (ρ : Rho) : Prop := match ρ[i]? with
  | some (.own (.lst l)) => lk (brwD (.lst l) i rs) (kMb2 C sp Q ρ)
  | _ => False
/-- C(..), slot i's list lent -/
def wMakeB (i : Nat) (C : Addr) (sp : DSp) (t : TAD) : TD := fun ρ Q => t ρ (kMb1 i C sp Q)
section
variable {K : PySem.W.Frag} {b : Bas} {sp : DSp} {t : TAD} {E : XK} {σ : L2.St} {H : Hp} {Q : VK} {i : Nat} {C : Addr}
end
section
variable {X : Cx} {b : Bas} {k : Nat} {sp : DSp} {x : Str} {p pos : Pos} {e : Expr} {es : List Expr} {t : TAD} {C : Addr} {i : Nat}
end
section
variable {ρ : Rho} {Q : R → Rho → Prop} {rs : List R} {d x : D} {ds : List D} {i j : Nat} {C : Addr} {l : List D} {tA : TAD} {sp : DSp} {o : Own}
theorem e_callB : wCallB i sp tA ρ Q = tA ρ (kBw1 i sp Q) := rfl
theorem e_makeB : wMakeB i C sp tA ρ Q = tA ρ (kMb1 i C sp Q) := rfl
theorem brw_nil : brwD d i [] = some [] := rfl
theorem brw_dat : brwD d i (.dat x :: rs) = (brwD d i rs).map (x :: ·) := rfl
theorem brw_bor : brwD d i (.bor i :: rs) = (brwD d i rs).map (d :: ·) := if_pos rfl
end
end DL

set_option Elab.async false
set_option maxRecDepth 100000
set_option maxHeartbeats 4000000
/-! DL48: max of three ints. -/
namespace DL
open PySem PySem.Spec PyProof.Rows L2
section
variable {X : Cx} {b : Bas} {k : Nat} {sp : DSp} {pos : Pos} {ea eb : Expr} {ta tb : TD} {ks : List Nat} {C : Addr}
end
def max3 (i j k : Int) : Int := if k > (if j > i then j else i) then k else (if j > i then j else i)
def gMax3 : List D → Option Z
  | [.int i, .int j, .int k] => some (.d (.int (max3 i j k)))
  | _ => none
theorem max_3 {i j k : Int} : gMax3 [.int i, .int j, .int k] = some (.d (.int (max3 i j k))) := rfl
end DL

set_option Elab.async false
set_option maxRecDepth 100000
set_option maxHeartbeats 4000000
/-! DL49: class methods; the call of a local name that holds an own class. -/
namespace DL
open PySem PySem.Spec PyProof.Rows L2
/-- C.m(..), a class method: the class goes ahead of the arguments -/
def kCm2 (C : Addr) (sp : DSp) (Q : R → Rho → Prop) (p : List D × Rho) : Prop := sp (.dat (.cls C) :: p.1.map .dat) (fun r _ => Q r p.2) noX
def kCm1 (ks : List Nat) (C : Addr) (sp : DSp) (Q : R → Rho → Prop) (rs : List R) (ρ : Rho) : Prop := lk (frzs ks rs ρ) (kCm2 C sp Q)
def wCm (ks : List Nat) (C : Addr) (sp : DSp) (t : TAD) : TD := fun ρ Q => t ρ (kCm1 ks C sp Q)
section
variable {X : Cx} {CX : CXT} {k : Nat} {f C pr : Addr} {mc : Value} {fd : FuncData} {ps : List Str} {sp : Sp} {E : XK} {x m : Str} {p apos pos : Pos} {e : Expr} {es : List Expr} {t : TA} {pl : Sem Bool}
end
section
variable {K : PySem.W.Frag} {b : Bas} {ks : List Nat} {sp : DSp} {t : TAD} {E : XK} {σ : L2.St} {H : Hp} {Q : VK} {C : Addr}
/-- the i-th name holds the class at C: C(..) -/
def qCl (C : Addr) (z : Prop) : Option Sl → Prop
  | some (.dat (.cls C')) => C' = C ∧ z
  | _ => False
def wMakeL (ks : List Nat) (i : Nat) (C : Addr) (sp : DSp) (t : TAD) : TD := fun ρ Q => qCl C (wMake ks C sp t ρ Q) ρ[i]?
end
section
variable {X : Cx} {b : Bas} {k : Nat} {sp : DSp} {x m : Str} {p apos pos : Pos} {e : Expr} {es : List Expr} {t : TAD} {ks : List Nat} {C : Addr} {pl : Sem Bool} {i : Nat} {y : Str}
end
section
variable {ρ : Rho} {Q : R → Rho → Prop} {rs : List R} {ds : List D} {ks : List Nat} {C : Addr} {tA : TAD} {i : Nat} {sp : DSp} {z : Prop}
theorem e_cm : wCm ks C sp tA ρ Q = tA ρ (kCm1 ks C sp Q) := rfl
theorem k_cm1 : kCm1 ks C sp Q rs ρ = lk (frzs ks rs ρ) (kCm2 C sp Q) := rfl
theorem k_cm2 : kCm2 C sp Q (ds, ρ) = sp (.dat (.cls C) :: ds.map .dat) (fun r _ => Q r ρ) noX := rfl
theorem e_makeL : wMakeL ks i C sp tA ρ Q = qCl C (wMake ks C sp tA ρ Q) ρ[i]? := rfl
theorem q_cl : qCl C z (some (.dat (.cls C))) = z := propext ⟨fun h => h.2, fun h => ⟨rfl, h⟩⟩
end
end DL

set_option Elab.async false
set_option maxRecDepth 100000
set_option maxHeartbeats 4000000
/-! DL50: own methods: o.m(), o.m(x, ..), every part as data. -/
namespace DL
open PySem PySem.Spec PyProof.Rows L2
section
variable {X : Cx} {CX : CXT} {k : Nat} {f C : Addr} {fd : FuncData} {ps : List Str} {sp : Sp} {E : XK} {m : Str} {apos pos : Pos} {o : Expr} {ta : TE} {pl : Sem Bool}
end
def kMe2 (C : Addr) (m : Str) (sp : DSp) (Q : R → Rho → Prop) (p : List D × Rho) : Prop := match p.1 with
  | [.ins C1 l1] => C1 = C ∧ l1.lookup m = none ∧ sp [.dat (.ins C1 l1)] (fun r _ => Q r p.2) noX
  | _ => False
def kMe1 (ks : List Nat) (C : Addr) (m : Str) (sp : DSp) (Q : R → Rho → Prop) (r : R) (ρ : Rho) : Prop := lk (frzs ks [r] ρ) (kMe2 C m sp Q)
/-- o.m(), o as data -/
def wMeth0 (ks : List Nat) (C : Addr) (m : Str) (sp : DSp) (ta : TD) : TD := fun ρ Q => ta ρ (kMe1 ks C m sp Q)
section
variable {X : Cx} {b : Bas} {k : Nat} {sp : DSp} {m : Str} {apos pos : Pos} {o : Expr} {ta : TD} {ks : List Nat} {C : Addr} {pl : Sem Bool}
end
section
variable {ρ : Rho} {Q : R → Rho → Prop} {r : R} {ks : List Nat} {C : Addr} {ta : TD} {sp : DSp} {m : Str} {l : List (Str × D)}
theorem e_meth0 : wMeth0 ks C m sp ta ρ Q = ta ρ (kMe1 ks C m sp Q) := rfl
theorem k_me1 : kMe1 ks C m sp Q r ρ = lk (frzs ks [r] ρ) (kMe2 C m sp Q) := rfl
theorem k_me2 : kMe2 C m sp Q ([.ins C l], ρ) = (l.lookup m = none ∧ sp [.dat (.ins C l)] (fun r _ => Q r ρ) noX) := propext ⟨fun h => h.2, fun h => ⟨rfl, h⟩⟩
end
end DL

set_option Elab.async false
set_option maxRecDepth 100000
set_option maxHeartbeats 4000000
/-! DL51: own * int, int * own. -/
namespace DL
open PySem PySem.Spec PyProof.Rows L2
end DL

set_option Elab.async false
set_option maxRecDepth 100000
set_option maxHeartbeats 4000000
/-! DL52: int * own as a reading. -/
namespace DL
open PySem PySem.Spec PyProof.Rows L2
section
variable {X : Cx} {CX : CXT} {k : Nat} {f g C : Addr} {fd : FuncData} {ps : List Str} {sp : Sp} {E : XK}
end
def kMl2 (C : Addr) (sp : DSp) (Q : R → Rho → Prop) (p : List D × Rho) : Prop := match p.1 with
  | [.int i, .ins C1 l1] => C1 = C ∧ sp [.dat (.ins C1 l1), .dat (.int i)] (kRetQ Q p.2) noX
  | _ => False
def kMl1 (ks : List Nat) (C : Addr) (sp : DSp) (Q : R → Rho → Prop) (r1 r2 : R) (ρ : Rho) : Prop := lk (frzs ks [r1, r2] ρ) (kMl2 C sp Q)
def kMl0 (ks : List Nat) (C : Addr) (sp : DSp) (tb : TD) (Q : R → Rho → Prop) (r1 : R) (ρ : Rho) : Prop := tb ρ (kMl1 ks C sp Q r1)
/-- i * x, x of the class, by the class's __rmul__ -/
def wMulL (ks : List Nat) (C : Addr) (sp : DSp) (ta tb : TD) : TD := fun ρ Q => ta ρ (kMl0 ks C sp tb Q)
section
variable {X : Cx} {b : Bas} {k : Nat} {sp : DSp} {pos : Pos} {ea eb : Expr} {ta tb : TD} {ks : List Nat} {C : Addr}
end
section
variable {ρ : Rho} {Q : R → Rho → Prop} {r r2 : R} {ks : List Nat} {C : Addr} {l : List (Str × D)} {ta tb : TD} {sp : DSp} {i : Int}
theorem e_mulL : wMulL ks C sp ta tb ρ Q = ta ρ (kMl0 ks C sp tb Q) := rfl
theorem k_ml0 : kMl0 ks C sp tb Q r ρ = tb ρ (kMl1 ks C sp Q r) := rfl
theorem k_ml1 : kMl1 ks C sp Q r r2 ρ = lk (frzs ks [r, r2] ρ) (kMl2 C sp Q) := rfl
theorem k_ml2 : kMl2 C sp Q ([.int i, .ins C l], ρ) = sp [.dat (.ins C l), .dat (.int i)] (kRetQ Q ρ) noX := propext ⟨fun h => h.2, fun h => ⟨rfl, h⟩⟩
end
end DL

set_option Elab.async false
set_option maxRecDepth 100000
set_option maxHeartbeats 4000000
/-! DL53: own * int as a reading. -/
namespace DL
open PySem PySem.Spec PyProof.Rows L2
section
variable {X : Cx} {CX : CXT} {k : Nat} {f g C : Addr} {fd : FuncData} {ps : List Str} {sp : Sp} {E : XK}
end
def kMr2 (C : Addr) (sp : DSp) (Q : R → Rho → Prop) (p : List D × Rho) : Prop := match p.1 with
  | [.ins C1 l1, .int i] => C1 = C ∧ sp [.dat (.ins C1 l1), .dat (.int i)] (kRetQ Q p.2) noX
  | _ => False
def kMr1 (ks : List Nat) (C : Addr) (sp : DSp) (Q : R → Rho → Prop) (r1 r2 : R) (ρ : Rho) : Prop := lk (frzs ks [r1, r2] ρ) (kMr2 C sp Q)
def kMr0 (ks : List Nat) (C : Addr) (sp : DSp) (tb : TD) (Q : R → Rho → Prop) (r1 : R) (ρ : Rho) : Prop := tb ρ (kMr1 ks C sp Q r1)
/-- i * x, x of the class, by the class's __rmul__ -/
def wMulR (ks : List Nat) (C : Addr) (sp : DSp) (ta tb : TD) : TD := fun ρ Q => ta ρ (kMr0 ks C sp tb Q)
section
variable {X : Cx} {b : Bas} {k : Nat} {sp : DSp} {pos : Pos} {ea eb : Expr} {ta tb : TD} {ks : List Nat} {C : Addr}
end
section
variable {ρ : Rho} {Q : R → Rho → Prop} {r r2 : R} {ks : List Nat} {C : Addr} {l : List (Str × D)} {ta tb : TD} {sp : DSp} {i : Int}
theorem e_mulR : wMulR ks C sp ta tb ρ Q = ta ρ (kMr0 ks C sp tb Q) := rfl
theorem k_mr0 : kMr0 ks C sp tb Q r ρ = tb ρ (kMr1 ks C sp Q r) := rfl
theorem k_mr1 : kMr1 ks C sp Q r r2 ρ = lk (frzs ks [r, r2] ρ) (kMr2 C sp Q) := rfl
theorem k_mr2 : kMr2 C sp Q ([.ins C l, .int i], ρ) = sp [.dat (.ins C l), .dat (.int i)] (kRetQ Q ρ) noX := propext ⟨fun h => h.2, fun h => ⟨rfl, h⟩⟩
end
end DL

set_option Elab.async false
set_option maxRecDepth 100000
set_option maxHeartbeats 4000000
/-! DL54: str(x) of an own object, by its own __str__. -/
namespace DL
open PySem PySem.Spec PyProof.Rows L2
def tlStr : D → Option D
  | .str x => some (.str x)
  | _ => none
section
variable {X : Cx} {CX : CXT} {k : Nat} {f C : Addr} {fd : FuncData} {ps : List Str} {sp : Sp} {E : XK}
end
section
variable {X : Cx} {b : Bas} {k : Nat} {sp : DSp} {p pos : Pos} {e : Expr} {es : List Expr} {t : TAD} {ks : List Nat} {C : Addr}
end
theorem k_tls {Q : R → Rho → Prop} {ρ : Rho} {x : Str} {a : List Sl} : kTl1 tlStr Q ρ (.dat (.str x)) a = Q (.dat (.str x)) ρ := by
  show lk (tlStr (.str x)) (kTl2 Q ρ) = _
  rw [lk_eq (show tlStr (.str x) = some (.str x) from rfl)]
  rfl
end DL

set_option Elab.async false
set_option maxRecDepth 100000
set_option maxHeartbeats 4000000
/-! DL55: for i in reversed(range(n)). -/
namespace DL
open PySem PySem.Spec PyProof.Rows L2
def downD (n : Nat) : List D := (List.range n).reverse.map fun k => .int (k : Nat)
def intO : D → Option Int
  | .int j => some j
  | _ => none
def kRv3 (Q : List D → Rho → Prop) (ρ : Rho) (j : Int) : Prop := (-(2 ^ 62) ≤ j ∧ j < 2 ^ 62) ∧ Q (downD j.toNat) ρ
def kRv2 (Q : List D → Rho → Prop) (p : D × Rho) : Prop := lk (intO p.1) (kRv3 Q p.2)
def kRv1 (ks : List Nat) (Q : List D → Rho → Prop) (r : R) (ρ : Rho) : Prop := lk (frz ks r ρ) (kRv2 Q)
/-- reversed(range(n)) -/
def wItRv (ks : List Nat) (ta : TD) : TID := fun ρ Q => ta ρ (kRv1 ks Q)
section
variable {X : Cx} {b : Bas} {ks : List Nat} {e tg : Expr} {ta : TD} {p p2 q pos : Pos}
end
section
variable {ρ : Rho} {Q : List D → Rho → Prop} {r : R} {ks : List Nat} {ta : TD} {j : Int}
theorem e_itRv : wItRv ks ta ρ Q = ta ρ (kRv1 ks Q) := rfl
theorem k_rv1 : kRv1 ks Q r ρ = lk (frz ks r ρ) (kRv2 Q) := rfl
theorem k_rv2 : kRv2 Q (.int j, ρ) = ((-(2 ^ 62) ≤ j ∧ j < 2 ^ 62) ∧ Q (downD j.toNat) ρ) := by
  show lk (intO (.int j)) (kRv3 Q ρ) = _
  rw [lk_eq (show intO (.int j) = some j from rfl)]; rfl
end
end DL

set_option Elab.async false
set_option maxRecDepth 100000
set_option maxHeartbeats 4000000
/-! DL56: f'..' of texts and ints. -/
namespace DL
open PySem PySem.Spec PyProof.Rows L2
noncomputable def fmtO : D → Option D
  | .str y => if y.length ≤ sizeLine then some (.str y) else none
  | .int i => (gStrI [.int i]).bind fun z => match z with
    | .d d => some d
    | _ => none
  | _ => none
def kFm2 (Q : R → Rho → Prop) (ρ : Rho) (d : D) : Prop := Q (.dat d) ρ
noncomputable def kFm1 (ks : List Nat) (Q : R → Rho → Prop) (r : R) (ρ : Rho) : Prop := lk (frz ks r ρ) fun p => lk (fmtO p.1) (kFm2 Q p.2)
/-- {x} -/
noncomputable def wFmt (ks : List Nat) (ta : TD) : TD := fun ρ Q => ta ρ (kFm1 ks Q)
theorem Rv.d {K : PySem.W.Frag} {b : Bas} {σ : L2.St} {J H G : Hp} {ρ : Rho} {v : V} {d : D} (r : Rp K G v d) : Rv K b σ J H G ρ v (.dat d) := r
section
variable {X : Cx} {b : Bas} {ks : List Nat} {e : Expr} {ta : TD} {pos : Pos}
end
section
variable {ρ : Rho} {Q : R → Rho → Prop} {r : R} {ks : List Nat} {ta : TD} {i : Int} {acc y : Str} {ts : List TD}
theorem e_fmt : wFmt ks ta ρ Q = ta ρ (kFm1 ks Q) := rfl
end
end DL

set_option Elab.async false
set_option maxRecDepth 100000
set_option maxHeartbeats 4000000
/-! DL57: str(x) of a text. -/
namespace DL
open PySem PySem.Spec PyProof.Rows L2
def gStrS : List D → Option Z
  | [.str a] => some (.d (.str a))
  | _ => none
theorem strS_s {a : Str} : gStrS [.str a] = some (.d (.str a)) := rfl
end DL

set_option Elab.async false
set_option maxRecDepth 100000
set_option maxHeartbeats 4000000
/-! DL58: what built-in types answer to an own object beside ==, !=: NotImplemented. -/
namespace DL
open PySem PySem.Spec PyProof.Rows L2
section
variable (x C dx : Addr)
end
end DL

set_option Elab.async false
set_option maxRecDepth 100000
set_option maxHeartbeats 4000000
/-! DL59: an own object beside a value of a built-in type: ==, != where its own __eq__ declines. -/
namespace DL
open PySem PySem.Spec PyProof.Rows L2
/-- a value of a built-in type -/
inductive Odd (h : Heap) : Value → String → Prop
  | non : Odd h .none "NoneType"
  | bl (b : Bool) : Odd h (.bool b) "bool"
  | int (i : Int) (t : Tok) : Odd h (.int i t) "int"
  | str (x : Str) (t : Tok) : Odd h (.str x t) "str"
  | lst {l : Addr} {items : Array Value} {n : Nat} {dd : Option Addr} {sl : Array (Option Value)} (e : h.get? l = some { cls := .type "list", dict := dd, data := .seq items n, slots := sl }) : Odd h (.ref l) "list"
  | tup {l : Addr} {items : Array Value} {n : Nat} {dd : Option Addr} {sl : Array (Option Value)} (e : h.get? l = some { cls := .type "tuple", dict := dd, data := .seq items n, slots := sl }) : Odd h (.ref l) "tuple"
  | dct {l : Addr} {dat : Data} {dd : Option Addr} {sl : Array (Option Value)} (e : h.get? l = some { cls := .type "dict", dict := dd, data := dat, slots := sl }) : Odd h (.ref l) "dict"
section
variable {prog : Program} {w : World} {A : Around} {E : Value → Shared → Prop} {s : Shared} {v : Value} {T : String} {x C dx : Addr}
theorem Odd.type {h : Heap} (O : Odd h v T) (e : s.heap = h) : s.TypeIs v T := by
  subst e
  cases O with
  | non => exact rfl
  | bl b => exact rfl
  | int i t => exact typeIs_int s i t
  | str y t => exact typeIs_str s y t
  | lst e => exact ⟨_, e, rfl⟩
  | tup e => exact ⟨_, e, rfl⟩
  | dct e => exact ⟨_, e, rfl⟩
end
section
variable {prog : Program} {w : World} {A : Around} {E : Value → Shared → Prop} {s : Shared} {K : PySem.W.Frag} {v : Value} {T : String} {x C dx f : Addr} {ox : Obj} {od : Option Obj}
end
end DL

set_option Elab.async false
set_option maxRecDepth 100000
set_option maxHeartbeats 4000000
/-! DL60: x != v; a def that declines. -/
namespace DL
open PySem PySem.Builtin PySem.W
section
variable {prog : Program} {w : World} {A : Around} {E : Value → Shared → Prop} {s : Shared} {K : Frag} {v : Value} {T : String} {x C dx f : Addr} {ox : Obj} {od : Option Obj}
end
end DL

set_option Elab.async false
set_option maxRecDepth 100000
set_option maxHeartbeats 4000000
/-! DL61: a def that hands NotImplemented back. -/
namespace DL
open PySem PySem.Spec PyProof.Rows L2
section
variable {P : Program} {w : World} {K : PySem.W.Frag} {mg : Str → Option Value} {base : Heap}
end
end DL

set_option Elab.async false
set_option maxRecDepth 100000
set_option maxHeartbeats 4000000
/-! DL62: x == v, x != v: an own object beside a value of a built-in type. -/
namespace DL
open PySem PySem.Spec PyProof.Rows L2
inductive OddV (K : PySem.W.Frag) (H : Hp) : V → String → Prop
  | non : OddV K H .non "NoneType"
  | bl (b : Bool) : OddV K H (.bl b) "bool"
  | int (i : Int) : OddV K H (.int i) "int"
  | str (x : Str) : OddV K H (.str x) "str"
  | lst {a : Addr} {xs : List V} (h : SqL K H a xs) : OddV K H (.ref a) "list"
  | tup {a : Addr} {xs : List V} (h : SqT K H a xs) : OddV K H (.ref a) "tuple"
  | dct {a : Addr} {ks : List (Key × V)} (h : H a = some (.dK ks)) : OddV K H (.ref a) "dict"
theorem OddV.odd {X : Cx} {pins : List (Addr × Obj)} {σ : L2.St} {H : Hp} {s : Shared} {y : V} {u : Value} {T : String} (O : OddV X.K H y T) (I : Inv X pins σ H s) (r : RelV y u) : Odd s.heap u T := by
  cases O with
  | non => cases r; exact .non
  | bl b => cases r; exact .bl b
  | int i => obtain ⟨t, rfl⟩ := r; exact .int i t
  | str x => obtain ⟨t, rfl⟩ := r; exact .str x t
  | lst h =>
    cases r
    obtain ⟨its, rv, p, _⟩ := I.list h
    obtain ⟨⟨c, d, dt, sl⟩, e, ec, n, ed⟩ := p.isList
    cases ec
    cases ed
    exact .lst e
  | tup h =>
    cases r
    obtain ⟨its, rv, p, _⟩ := I.tuple h
    obtain ⟨⟨c, d, dt, sl⟩, e, ec, n, ed⟩ := p
    cases ec
    cases ed
    exact .tup e
  | dct h =>
    cases r
    obtain ⟨_, _, vs, _, ⟨c, d, dt, sl⟩, es, ep, e, ex, _⟩ := I.hok _ _ h
    have hc : c = .type "dict" := ex.1
    subst hc
    exact .dct e
/-- what of a class is asked so that its objects may be compared with values of built-in types -/
structure OddC (K : PySem.W.Frag) (C : Addr) : Prop where
  is : IsC K C
  lst : PySem.W.mroIn K C (.type "list") = some false
  tup : PySem.W.mroIn K C (.type "tuple") = some false
  dct : PySem.W.mroIn K C (.type "dict") = some false
theorem OddC.sub {K : PySem.W.Frag} {C : Addr} (c : OddC K C) {H : Hp} {y : V} {T : String} (O : OddV K H y T) : PySem.W.subIn K (.type T) (.ref C) = some false := by
  cases O
  · exact c.is.n1
  · exact c.is.n2
  · exact c.is.n3
  · exact c.is.n4
  · exact c.is.n5
  · exact c.is.n6
  · exact c.is.n7
section
variable {X : Cx} {k : Nat} {f C : Addr} {fd : FuncData} {ps : List Str} {sp : Sp} {E : XK}
end
end DL

set_option Elab.async false
set_option maxRecDepth 100000
set_option maxHeartbeats 4000000
/-! DL63. -/
namespace DL
open DL PySem PySem.Spec PyProof.Rows L2
local macro_rules | `(tactic| walk_at "dl") => `(tactic| simp (config := {decide := false, implicitDefEqProofs := false}) only [e_cm, k_cm1, k_cm2, e_makeL, q_cl, e_meth0, k_me1, k_me2, e_mulL, k_ml0, k_ml1, k_ml2, e_mulR, k_mr0, k_mr1, k_mr2, max_3, e_callB, e_makeB, brw_nil, brw_dat, brw_bor, e_aliF, e_ali, k_ali, e_neL, k_nl0, k_nl1, k_nl2, e_own1, k_ow1, k_ow2, k_tlb, k_tln, e_inO, k_io0, k_io1, k_io2, e_callO, k_cf0d, k_cf0b, k_refSl, k_cf1, k_cf2, e_callW, k_cw1, k_cw2, e_itZM, k_zm1, k_zm2l, k_zm2ll, e_ixO, k_oi0, k_oi1, k_oi2, e_prop, k_pr1, k_pr2, e_binO, k_bo0, k_bo1, k_bo2, e_eqO, k_eo0, k_eo1, k_eo2, k_eo3, e_cnt, k_cn0, k_cn1, k_cn2, k_cn3, isLst_l, cntD_i, e_fld, k_fl1, k_fl2, k_fl3, insD_i, e_setF, k_sf1, k_sf2, q_sf, e_make, k_mk1, k_mk2, k_mk3, e_never, e_callRR, k_rr1, k_rr2, k_rr3, k_rr4, e_itEA, k_ea1, k_ea2, e_itT2, k_i1, k_i2, e_m1, k_m1, k_m1b, k_m2, k_m3, k_m4, e_itZ, k_z1, e_scLen, k_sc, k_scQ, compT_nil, compT_cons, k_t1, k_t2, k_t2b, k_t3, e_chain, k_ch, k_ch0, k_ch1, k_ch2, k_ch3, k_ch4, k_ch5, k_ch6, rev_l, rev_f, rev_t, clear_l, lista_s, max_2, min_2, inA_s, ix_s, mulA_si, seqE_nx, seqE_rt, seqE_bk, seqE_ct, loopE_nx, loopE_rt, loopE_bk, loopE_ct, e_seq, e_next, e_break, e_cont, e_retN, e_var, q_var_d, q_var_o, e_c, con_d, con_o, con_b, conS_d, conS_o, own_l, own_d, own_i, z_d, z_n, z_t, z_w, sl_d, sl_o, frz_d, frz_o, frz_b, q_frz_d, q_frz_o, frzs_nil, frzs_cons, k_fzs, k_fz, thin_d, thin_o, thin_b, k_th, thins_nil, thins_cons, k_ths, k_ts, setR_nil, setR_cons, k_e, e_op, k_op1, k_op2, k_op3, k_op4, e_un, k_un1, k_un2, e_nil, e_cons, k_co1, k_co2, conL_nil, conL_cons, k_cl, k_cl2, e_b, k_b1, k_b2, e_tup, k_tup1, k_tup2, e_lst, k_lst1, k_lst2, e_dct0, k_ret, e_call, k_ca1, k_ca2, k_retR, e_callR, k_cr1, k_cr2, k_cr3, e_tr, k_tr1, k_tr2, k_tr3, e_bl, k_bl, e_and, k_and, e_or, k_or, e_not, k_not, e_if, k_if, e_ifS, k_ifS, e_notV, k_nv1, k_nv2, e_andV, k_av1, k_av2, e_orV, k_ov1, k_ov2, bD_bl, e_sl, k_sl1, k_sl2, k_sl3, k_sl4, e_part, k_pt1, k_pt2, e_noP, e_dget, k_ge1, k_ge1b, k_ge2, k_ge3, k_ge4, dctD_d, keyD_i, keyD_s, e_mut, q_mu0, k_mu1, k_mu2, q_mu3, k_mu4, e_put, k_pu1, k_pu2, k_pu3, k_pu4, q_pu4, k_pu5, e_aug, q_au0, k_au1, k_au2, k_au3, e_asg, k_as1, k_as2, e_par, k_pa1, k_pa2, e_unp, k_up1, k_up2, e_hName, e_hNil, e_hCons, k_hc, e_hTup, e_hWt, e_drop, k_dr, e_ret, k_rt_d, k_rt_o, k_rt_b, q_out_o, q_out_d, forL_nil, forL_cons, k_fo2, e_for, k_fo1, k_wh, e_itS, k_it1, k_it2, k_it3, walk_l, walk_f, walk_t, e_itR1, k_r11, k_r12, e_itR2, k_r21, k_r22, e_itE, k_en1, k_en2, k_en3, list_l, list_f, e_lc, k_lc, k_lcQ, compL_nil, compL_cons, k_c1, k_c2, k_c3, k_c4, e_yes, wip_nil, wip_cons, unw_nil, unw_cons, g_int, f_add, f_sub, f_mul, f_div, f_mod, f_pow, f_lt, f_le, f_gt, f_ge, add_i, add_s, add_l, add_t, mul_i, mul_l, mul_t, neg_i, ix_l, ix_t, sl_l, sl_f, sl_t, len_l, len_f, len_t, len_s, abs_i, int_i, lof_l, lof_f, lof_t, tof_l, tof_f, tof_t, dof_t, app_l, ext_t, ext_l, tru_b, tru_i, tru_l, tru_t, tru_n, augN, subN, is_bl, is_non, ixN4_0, ixN4_1, ixN4_2, ixN4_3, lk_some, lk_ite, lk_map, lk_bind, ixOf, endsF_nx, endsF_dat, endsF_own, atI_0, atI_1, atI_2, atI_3, eqA_l0, eqA_tup0, eqA_int, eqA_non, bne_f, bne_t, sizeLine_eq,
  List.cons_append, List.nil_append, List.getElem?_cons_zero, List.getElem?_cons_succ, List.set_cons_zero, List.set_cons_succ, List.length_cons, List.length_nil, List.replicate, List.take_succ_cons, List.take_zero, List.not_mem_nil, List.mem_cons, List.map_cons, List.map_nil, if_false, if_true, Option.map_some, Option.bind_some, Option.getD_some, Nat.reduceAdd, Nat.reduceSub, Nat.reduceLeDiff, Nat.reduceEqDiff, Nat.succ_ne_zero, Nat.zero_ne_one, Nat.one_ne_zero, List.isEmpty_nil, List.isEmpty_cons, List.length_map, List.isEmpty_map, beq_iff_eq, Bool.not_eq_true, reduceCtorEq, or_false, or_true, false_or, true_or, and_true, true_and, List.cons.injEq, Option.some.injEq, Sl.own.injEq, Own.lst.injEq, exists_eq', not_false_eq_true, forall_const, forall_eq, forall_eq_or_imp, decide_eq_true_eq, Bool.not_true, Bool.not_false, Bool.false_eq_true, ite_self])
local macro_rules | `(tactic| walk_at "dlf") => `(tactic| simp (config := {decide := false, implicitDefEqProofs := false}) only [e_cm, k_cm1, k_cm2, e_makeL, q_cl, e_meth0, k_me1, k_me2, e_mulL, k_ml0, k_ml1, k_ml2, e_mulR, k_mr0, k_mr1, k_mr2, max_3, e_callB, e_makeB, brw_nil, brw_dat, brw_bor, e_aliF, e_ali, k_ali, e_neL, k_nl0, k_nl1, k_nl2, e_own1, k_ow1, k_ow2, k_tlb, k_tln, e_inO, k_io0, k_io1, k_io2, e_callO, k_cf0d, k_cf0b, k_refSl, k_cf1, k_cf2, e_callW, k_cw1, k_cw2, e_itZM, k_zm1, k_zm2l, k_zm2ll, e_ixO, k_oi0, k_oi1, k_oi2, e_prop, k_pr1, k_pr2, e_binO, k_bo0, k_bo1, k_bo2, e_eqO, k_eo0, k_eo1, k_eo2, k_eo3, e_cnt, k_cn0, k_cn1, k_cn2, k_cn3, isLst_l, cntD_i, e_fld, k_fl1, k_fl2, k_fl3, insD_i, e_setF, k_sf1, k_sf2, q_sf, e_make, k_mk1, k_mk2, k_mk3, e_never, e_callRR, k_rr1, k_rr2, k_rr3, k_rr4, e_itEA, k_ea1, k_ea2, e_itT2, k_i1, k_i2, e_m1, k_m1, k_m1b, k_m2, k_m3, k_m4, e_itZ, k_z1, e_scLen, k_sc, k_scQ, compT_nil, compT_cons, k_t1, k_t2, k_t2b, k_t3, e_chain, k_ch, k_ch0, k_ch1, k_ch2, k_ch3, k_ch4, k_ch5, k_ch6, rev_l, rev_f, rev_t, clear_l, lista_s, max_2, min_2, inA_s, ix_s, mulA_si, seqE_nx, seqE_rt, seqE_bk, seqE_ct, loopE_nx, loopE_rt, loopE_bk, loopE_ct, e_seq, e_next, e_break, e_cont, e_retN, e_var, q_var_d, q_var_o, e_c, con_d, con_o, con_b, conS_d, conS_o, own_l, own_d, own_i, z_d, z_n, z_t, z_w, sl_d, sl_o, frz_d, frz_o, frz_b, q_frz_d, q_frz_o, frzs_nil, frzs_cons, k_fzs, k_fz, thin_d, thin_o, thin_b, k_th, thins_nil, thins_cons, k_ths, k_ts, setR_nil, setR_cons, k_e, e_op, k_op1, k_op2, k_op3, k_op4, e_un, k_un1, k_un2, e_nil, e_cons, k_co1, k_co2, conL_nil, conL_cons, k_cl, k_cl2, e_b, k_b1, k_b2, e_tup, k_tup1, k_tup2, e_lst, k_lst1, k_lst2, e_dct0, k_ret, e_call, k_ca1, k_ca2, k_retR, e_callR, k_cr1, k_cr2, k_cr3, e_tr, k_tr1, k_tr2, k_tr3, e_bl, k_bl, e_and, k_and, e_or, k_or, e_not, k_not, e_if, k_if, e_ifS, k_ifS, e_notV, k_nv1, k_nv2, e_andV, k_av1, k_av2, e_orV, k_ov1, k_ov2, bD_bl, e_sl, k_sl1, k_sl2, k_sl3, k_sl4, e_part, k_pt1, k_pt2, e_noP, e_dget, k_ge1, k_ge1b, k_ge2, k_ge3, k_ge4, dctD_d, keyD_i, keyD_s, e_mut, q_mu0, k_mu1, k_mu2, q_mu3, k_mu4, e_put, k_pu1, k_pu2, k_pu3, k_pu4, q_pu4, k_pu5, e_aug, q_au0, k_au1, k_au2, k_au3, e_asg, k_as1, k_as2, e_par, k_pa1, k_pa2, e_unp, k_up1, k_up2, e_hName, e_hNil, e_hCons, k_hc, e_hTup, e_hWt, e_drop, k_dr, e_ret, k_rt_d, k_rt_o, k_rt_b, q_out_o, q_out_d, forL_nil, k_fo2, e_for, k_fo1, k_wh, e_itS, k_it1, k_it2, k_it3, walk_l, walk_f, walk_t, e_itR1, k_r11, k_r12, e_itR2, k_r21, k_r22, e_itE, k_en1, k_en2, k_en3, list_l, list_f, e_lc, k_lc, k_lcQ, compL_nil, k_c1, k_c2, k_c3, k_c4, e_yes, wip_nil, wip_cons, unw_nil, unw_cons, g_int, f_add, f_sub, f_mul, f_div, f_mod, f_pow, f_lt, f_le, f_gt, f_ge, add_i, add_s, add_l, add_t, mul_i, mul_l, mul_t, neg_i, ix_l, ix_t, sl_l, sl_f, sl_t, len_l, len_f, len_t, len_s, abs_i, int_i, lof_l, lof_f, lof_t, tof_l, tof_f, tof_t, dof_t, app_l, ext_t, ext_l, tru_b, tru_i, tru_l, tru_t, tru_n, augN, subN, is_bl, is_non, ixN4_0, ixN4_1, ixN4_2, ixN4_3, lk_some, lk_ite, lk_map, lk_bind, ixOf, endsF_nx, endsF_dat, endsF_own, atI_0, atI_1, atI_2, atI_3, eqA_l0, eqA_tup0, eqA_int, eqA_non, bne_f, bne_t, sizeLine_eq,
  List.cons_append, List.nil_append, List.getElem?_cons_zero, List.getElem?_cons_succ, List.set_cons_zero, List.set_cons_succ, List.length_cons, List.length_nil, List.replicate, List.take_succ_cons, List.take_zero, List.not_mem_nil, List.mem_cons, List.map_cons, List.map_nil, if_false, if_true, Option.map_some, Option.bind_some, Option.getD_some, Nat.reduceAdd, Nat.reduceSub, Nat.reduceLeDiff, Nat.reduceEqDiff, Nat.succ_ne_zero, Nat.zero_ne_one, Nat.one_ne_zero, List.isEmpty_nil, List.isEmpty_cons, List.length_map, List.isEmpty_map, beq_iff_eq, Bool.not_eq_true, reduceCtorEq, or_false, or_true, false_or, true_or, and_true, true_and, List.cons.injEq, Option.some.injEq, Sl.own.injEq, Own.lst.injEq, exists_eq', not_false_eq_true, forall_const, forall_eq, forall_eq_or_imp, decide_eq_true_eq, Bool.not_true, Bool.not_false, Bool.false_eq_true, ite_self])
local macro_rules | `(tactic| walk_at "len") => `(tactic| first | omega | (simp only [List.length_append, List.length_cons, List.length_nil, List.length_map, List.length_singleton, List.length_replicate, List.length_range, List.length_take, List.length_drop, List.length_reverse]; omega) | (simp; omega) | (simp; done))
def oddT : D → Option String
  | .non => some "NoneType"
  | .bl _ => some "bool"
  | .int _ => some "int"
  | .str _ => some "str"
  | .lst _ => some "list"
  | .tup _ => some "tuple"
  | .dct _ => some "dict"
  | _ => none
section
variable {P : Program} {w : World} {K : PySem.W.Frag} {mg : Str → Option Value} {base : Heap}
/-! ### readings -/
def kOd2 (neg : Bool) (C : Addr) (Q : R → Rho → Prop) (p : List D × Rho) : Prop := match p.1 with
  | [.ins C1 _, d] => C1 = C ∧ (oddT d).isSome = true ∧ Q (.dat (.bl neg)) p.2
  | _ => False
def kOd1 (ks : List Nat) (neg : Bool) (C : Addr) (Q : R → Rho → Prop) (r1 r2 : R) (ρ : Rho) : Prop := lk (frzs ks [r1, r2] ρ) (kOd2 neg C Q)
def kOd0 (ks : List Nat) (neg : Bool) (C : Addr) (tb : TD) (Q : R → Rho → Prop) (r1 : R) (ρ : Rho) : Prop := tb ρ (kOd1 ks neg C Q r1)
/-- x == v, x != v: x of the class C, v of a built-in type -/
def wOdd (ks : List Nat) (neg : Bool) (C : Addr) (ta tb : TD) : TD := fun ρ Q => ta ρ (kOd0 ks neg C tb Q)
end
section
variable {X : Cx} {b : Bas} {k : Nat} {pos : Pos} {ea eb : Expr} {ta tb : TD} {ks : List Nat} {C : Addr}
end
section
variable {ρ : Rho} {Q : R → Rho → Prop} {r r2 : R} {ks : List Nat} {C : Addr} {ta tb : TD} {l : List (Str × D)} {d : D} {neg : Bool}
theorem e_odd : wOdd ks neg C ta tb ρ Q = ta ρ (kOd0 ks neg C tb Q) := rfl
theorem k_od0 : kOd0 ks neg C tb Q r ρ = tb ρ (kOd1 ks neg C Q r) := rfl
theorem k_od1 : kOd1 ks neg C Q r r2 ρ = lk (frzs ks [r, r2] ρ) (kOd2 neg C Q) := rfl
theorem k_od2 (h : (oddT d).isSome = true) : kOd2 neg C Q ([.ins C l, d], ρ) = Q (.dat (.bl neg)) ρ := propext ⟨fun z => z.2.2, fun z => ⟨rfl, h, z⟩⟩
theorem k_od2n : kOd2 neg C Q ([.ins C l, .non], ρ) = Q (.dat (.bl neg)) ρ := k_od2 rfl
theorem k_od2b {c : Bool} : kOd2 neg C Q ([.ins C l, .bl c], ρ) = Q (.dat (.bl neg)) ρ := k_od2 rfl
theorem k_od2i {i : Int} : kOd2 neg C Q ([.ins C l, .int i], ρ) = Q (.dat (.bl neg)) ρ := k_od2 rfl
theorem k_od2s {x : Str} : kOd2 neg C Q ([.ins C l, .str x], ρ) = Q (.dat (.bl neg)) ρ := k_od2 rfl
theorem k_od2l {m : List D} : kOd2 neg C Q ([.ins C l, .lst m], ρ) = Q (.dat (.bl neg)) ρ := k_od2 rfl
theorem k_od2t {m : List D} : kOd2 neg C Q ([.ins C l, .tup m], ρ) = Q (.dat (.bl neg)) ρ := k_od2 rfl
theorem k_od2d {m : List (Key × D)} : kOd2 neg C Q ([.ins C l, .dct m], ρ) = Q (.dat (.bl neg)) ρ := k_od2 rfl
end

end DL

set_option Elab.async false
set_option maxRecDepth 100000
set_option maxHeartbeats 4000000
/-! DL64: <, <=, >, >= of data. -/
namespace DL
open PySem PySem.Spec PyProof.Rows L2
section
variable {X : Cx}
end
end DL

set_option Elab.async false
set_option maxRecDepth 100000
set_option maxHeartbeats 4000000
/-! DF3: a class method, at the end. -/
namespace DL
open PySem PySem.Spec PyProof.Rows L2
section
variable {P : Program} {w : World} {K : PySem.W.Frag} {mg : Str → Option Value} {base : Heap} {k : Nat} {C : Addr} {x m qual : Str} {st : Stmt} {N ps : List Str} {sp : DSp} {rd : List Nat → SD}
end
end DL

set_option Elab.async false
set_option maxRecDepth 100000
set_option maxHeartbeats 4000000
/-! DF4: own methods, int * own, own * int, at the end. -/
namespace DL
open PySem PySem.Spec PyProof.Rows L2
section
variable {P : Program} {w : World} {K : PySem.W.Frag} {mg : Str → Option Value} {base : Heap} {k : Nat} {C : Addr} {m qual : Str} {st : Stmt} {N ps : List Str} {sp : DSp} {rd : List Nat → SD}
end
end DL

set_option Elab.async false
set_option maxRecDepth 100000
set_option maxHeartbeats 4000000
/-! DL65: orders of own objects by name; how a declining __eq__ is known. -/
namespace DL
open PySem PySem.Spec PyProof.Rows L2
section
variable {X : Cx} {b : Bas} {k : Nat} {sp : DSp} {pos : Pos} {ea eb : Expr} {ta tb : TD} {ks : List Nat} {C : Addr}
end
section
variable {P : Program} {w : World} {K : PySem.W.Frag} {mg : Str → Option Value} {base : Heap} {k : Nat} {C : Addr} {qual : Str} {st : Stmt} {N ps : List Str} {c : Expr} {p1 p2 p3 : Pos} {rest : List Stmt}
end
end DL

set_option Elab.async false
set_option maxRecDepth 100000
set_option maxHeartbeats 4000000
/-! DX1: a try with several except clauses, with names and without. -/
namespace DL
open PySem PySem.Spec PyProof.Rows L2
abbrev Suit := Addr → Value → Option Addr → TS
def slotOf (X : Cx) : Option Str → Option Nat → Prop
  | none, none => True
  | some n, some i => X.N[i]? = some n ∧ X.env.kindOf n = some .local
  | _, _ => False
inductive HdsN (X : Cx) : List ExceptHandler → List (Value × Option Nat × Suit) → Prop
  | nil : HdsN X [] []
  | cons {x : Str} {c : Value} {o : Option Str} {i : Option Nat} {ts : Suit} {st : Stmt} {sts : List Stmt} {p1 p2 : Pos} {hds : List ExceptHandler} {l : List (Value × Option Nat × Suit)} (nm : Names X x c) (sl : slotOf X o i)
      (su : ∀ (a : Addr) (oe : Obj) (cls : Value) (d : Option Addr) (pn : List (Addr × Obj)), Zc cls d oe → (∃ vs, oe.data = .fields vs) → PSs (X.suite a ((a, oe) :: pn)) (st :: sts) (ts a cls d)) (r : HdsN X hds l) :
      HdsN X (.ExceptHandler (some (.Name x p1)) o (st :: sts) p2 :: hds) ((c, i, ts) :: l)
/-- what stands when a body's exception has been taken -/
structure Took (X : Cx) (Wout : WX) (pins : List (Addr × Obj)) (a : Addr) (B : Heap) (sI s : Shared) (σ : L2.St) (H : Hp) (cls : Value) (d : Option Addr) : Prop where
  inv : Inv X pins σ H sI
  ground : ∀ b o, sI.heap.get? b = some o → b ∉ frs X.stack → B.get? b = some o
  up : sI.heap.UpToSlots s.heap
  fly : HandSPX.FlyingZ B (X.env :: X.outer) a (Zc cls d) s.heap
  gone : H a = none
  os : s.os = sI.os
  bare : AllBare s.gens
section
variable {X : Cx} {Wout : WX} {pins : List (Addr × Obj)} {a : Addr} {B : Heap} {sI s : Shared} {σ : L2.St} {H : Hp} {cls : Value} {d : Option Addr}
theorem Took.here (t : Took X Wout pins a B sI s σ H cls d) : Inv X pins σ H s := t.inv.landed t.ground t.fly.1 t.up t.os t.bare
theorem Took.off (t : Took X Wout pins a B sI s σ H cls d) : a ∉ frs (X.env :: X.outer) := by
  obtain ⟨oe, vs, e, _, dd⟩ := t.fly.there
  intro hm
  obtain ⟨_, o, e2, nf⟩ := t.fly.2.2.1.mem hm
  rw [e] at e2
  cases e2
  exact nf _ dd
theorem Took.suite (hf : X.env.frame = some X.env.locals) (t : Took X Wout pins a B sI s σ H cls d) {oe : Obj} {vs : Array Value} (e : s.heap.get? a = some oe) (dd : oe.data = .fields vs) : Inv (X.suite a ((a, oe) :: (X.pn ++ pins))) [] σ H s := by
  have off := t.off
  refine t.here.suite e dd t.gone (fun z => off ?_) (fun hm => off ?_)
  · exact List.mem_filterMap.mpr ⟨X.env, List.mem_cons_self, by rw [hf, z]⟩
  · obtain ⟨y, hy, q⟩ := List.mem_filterMap.mp hm
    exact List.mem_filterMap.mpr ⟨y, List.mem_cons_of_mem _ hy, q⟩
theorem Took.again (t : Took X Wout pins a B sI s σ H cls d) {h : Heap} (fl : HandSPX.FlyingZ B (X.env :: X.outer) a (Zc cls d) h) (u : s.heap.UpToSlots h) : Took X Wout pins a B sI { s with heap := h } σ H cls d :=
  ⟨t.inv, t.ground, t.up.trans u, fl, t.gone, t.os, t.bare⟩
end
section
variable {X : Cx} {Wout : WX} {pins : List (Addr × Obj)} {D : Ends}
end
end DL

set_option Elab.async false
set_option maxRecDepth 100000
set_option maxHeartbeats 4000000
/-! DX2: a try with several except clauses: the rule. -/
namespace DL
open PySem PySem.Spec PyProof.Rows L2
section
variable {X : Cx} {Wout : WX} {pins : List (Addr × Obj)} {D : Ends}
end
end DL

set_option Elab.async false
set_option maxRecDepth 100000
set_option maxHeartbeats 4000000
/-! DX3: exceptions over data: what is wished of them; raise; calls and makes that may raise; promises with exceptions. -/
namespace DL
open PySem PySem.Spec PyProof.Rows L2
/-- what is wished of an exception that is on its way -/
abbrev XD := Xc → Rho → Prop
def WD (K : PySem.W.Frag) (b : Bas) (EE : XD) : WX := fun cls d σ H => ∃ G ρ x, Rel K b σ H G ρ ∧ cls = .ref x.C ∧ RX K H G d x.l ∧ EE x ρ
/-- the same ground, its data those of now -/
def Bas.now (b : Bas) (G : Hp) : Bas := { b with G0 := G }
section
variable {K : PySem.W.Frag} {b : Bas} {σ σ' : L2.St} {H G H' G' : Hp} {ρ ρ' : Rho}
theorem RX.up {d : Option Addr} {l : Option (List (Str × D))} (e : Ex G G') (r : RX K H G d l) : RX K H' G' d l := by
  cases l with
  | none => exact r
  | some l =>
    obtain ⟨a, fs, e1, e2, e3⟩ := r
    exact ⟨a, fs, e1, e _ _ e2, e3.up e⟩
end

/-! ### raise -/
def wRaise (C : Addr) (EE : XD) : SD := fun _ ρ => EE ⟨C, none⟩ ρ
/-- an own exception class without an own __init__ -/
structure ErrC (K : PySem.W.Frag) (C : Addr) : Prop where
  q : PySem.W.excIn K C [.type "ValueError", .type "Exception", .type "BaseException", .type "object"] "ValueError.__new__" = true
  k : PySem.W.keepIn K (.ref C) = true
  e : PySem.W.subIn K (.ref C) (.type "BaseException") = some true
  t : PySem.W.typeIn K (.ref C) = some (.type "type")
section
variable {X : Cx} {b : Bas} {EE : XD} {C : Addr} {x m : Str} {j : Nat} {p p2 pos pos2 : Pos}
end

/-! ### calls that may raise -/
section
variable {X : Cx} {CX : CXT} {k : Nat} {f C : Addr} {fd : FuncData} {ps : List Str} {sp : Sp} {x : Str} {p pos : Pos} {e : Expr} {es : List Expr} {t : TA} {W : WX}
end
/-- f(..) that may raise -/
def kCx3 (Q : R → Rho → Prop) (ρ : Rho) (r : R) (_ : List Sl) : Prop := Q r ρ
def kCx4 (EE : XD) (ρ : Rho) (x : Xc) (_ : List Sl) : Prop := EE x ρ
def kCx2 (EE : XD) (sp : DSp) (Q : R → Rho → Prop) (p : List D × Rho) : Prop := sp (p.1.map .dat) (kCx3 Q p.2) (kCx4 EE p.2)
def kCx1 (ks : List Nat) (EE : XD) (sp : DSp) (Q : R → Rho → Prop) (rs : List R) (ρ : Rho) : Prop := lk (frzs ks rs ρ) (kCx2 EE sp Q)
def wCallX (ks : List Nat) (EE : XD) (sp : DSp) (t : TAD) : TD := fun ρ Q => t ρ (kCx1 ks EE sp Q)
def kMx2 (C : Addr) (EE : XD) (sp : DSp) (Q : R → Rho → Prop) (p : List D × Rho) : Prop := sp (.own (.ins C []) :: p.1.map .dat) (kMk3 Q p.2) (kCx4 EE p.2)
def kMx1 (ks : List Nat) (C : Addr) (EE : XD) (sp : DSp) (Q : R → Rho → Prop) (rs : List R) (ρ : Rho) : Prop := lk (frzs ks rs ρ) (kMx2 C EE sp Q)
/-- C(..) that may raise -/
def wMakeX (ks : List Nat) (C : Addr) (EE : XD) (sp : DSp) (t : TAD) : TD := fun ρ Q => t ρ (kMx1 ks C EE sp Q)
section
variable {ρ : Rho} {Q : R → Rho → Prop} {r : R} {rs : List R} {ds : List D} {ks : List Nat} {C : Addr} {tA : TAD} {sp : DSp} {a : List Sl} {EE : XD} {x : Xc} {DD : EndsD}
theorem e_raise : wRaise C EE DD ρ = EE ⟨C, none⟩ ρ := rfl
theorem e_callX : wCallX ks EE sp tA ρ Q = tA ρ (kCx1 ks EE sp Q) := rfl
theorem k_cx1 : kCx1 ks EE sp Q rs ρ = lk (frzs ks rs ρ) (kCx2 EE sp Q) := rfl
theorem k_cx2 : kCx2 EE sp Q (ds, ρ) = sp (ds.map .dat) (kCx3 Q ρ) (kCx4 EE ρ) := rfl
theorem k_cx3 : kCx3 Q ρ r a = Q r ρ := rfl
theorem k_cx4 : kCx4 EE ρ x a = EE x ρ := rfl
theorem e_makeX : wMakeX ks C EE sp tA ρ Q = tA ρ (kMx1 ks C EE sp Q) := rfl
theorem k_mx1 : kMx1 ks C EE sp Q rs ρ = lk (frzs ks rs ρ) (kMx2 C EE sp Q) := rfl
theorem k_mx2 : kMx2 C EE sp Q (ds, ρ) = sp (.own (.ins C []) :: ds.map .dat) (kMk3 Q ρ) (kCx4 EE ρ) := rfl
end
section
variable {K : PySem.W.Frag} {b : Bas} {ks : List Nat} {sp : DSp} {t : TAD} {σ : L2.St} {H : Hp} {Q : VK} {C : Addr} {EE : XD}
end

/-! ### promises with exceptions -/
structure KnownX (P : Program) (w : World) (K : PySem.W.Frag) (mg : Str → Option Value) (base : Heap) (k : Nat) (x : Str) (sp : DSp) : Prop where
  ex : ∃ (f : Addr) (fd : FuncData) (ps : List Str), FnG P w K mg base (L2.CX P w) k f fd ps (toSp K sp) ∧ mg x = some (.ref f) ∧ PySem.W.keepIn K (.ref f) = true ∧ Binds K fd ps []
structure MkX (P : Program) (w : World) (K : PySem.W.Frag) (mg : Str → Option Value) (base : Heap) (k : Nat) (x : Str) (C : Addr) (sp : DSp) : Prop where
  ex : ∃ (f : Addr) (fd : FuncData) (ps : List Str), Mk K C f ∧ FnG P w K mg base (L2.CX P w) k f fd ps (toSp K sp) ∧ mg x = some (.ref C) ∧ Binds K fd ps []
section
variable {X : Cx} {b : Bas} {k : Nat} {sp : DSp} {x : Str} {p pos : Pos} {e : Expr} {es : List Expr} {t : TAD} {ks : List Nat} {C : Addr} {EE : XD}
end
/-- a reading keeps a promise with exceptions -/
def endX (n : Nat) (ED : Xc → List Sl → Prop) : XD := fun x ρ => ED x (ρ.take n)
def PLX (N n : Nat) (rd : XD → List Nat → SD) (sp : DSp) : Prop := ∀ args QD ED, sp args QD ED → args.length = n ∧ rd (endX n ED) (ixOf 0 args) (endsF n QD) (args ++ List.replicate (N - n) .no)
theorem k_endX {n : Nat} {ED : Xc → List Sl → Prop} {x : Xc} {ρ : Rho} : endX n ED x ρ = ED x (ρ.take n) := rfl
section
variable {P : Program} {w : World} {K : PySem.W.Frag} {mg : Str → Option Value} {base : Heap}
theorem PLX.fn {k : Nat} {x qual : Str} {st : Stmt} {f : Addr} {fd : FuncData} {N ps : List Str} {sp : DSp} {rd : XD → List Nat → SD} (p : PLX N.length ps.length rd sp) (F : Fun K x qual st f fd) (S : FnScope N ps (defScope st))
    (d : ∀ (cdv : Value) (A : Around) (out : List Env) (s0 : Shared) (H : Hp) (b : Bas) (ks : List Nat) (E : XK) (EE : XD), Room k (A.deeper (envOfC qual (defScope st) s0.heap.objs.size f cdv)) → (A.deeper (envOfC qual (defScope st) s0.heap.objs.size f cdv)).guards = some [] → b.kp.map (·.1) = ks →
      Takes (cxOf (L2.CX P w) P w K mg base N qual (defScope st) f cdv A out s0 H E) (WD K b EE) →
      PSsD (cxOf (L2.CX P w) P w K mg base N qual (defScope st) f cdv A out s0 H E) b (defBody st) (rd EE ks)) : FnG P w K mg base (L2.CX P w) (k + 1) f fd ps (toSp K sp) := by
  refine fnG_mk F S (fun xs H Q E h => ?_) fun cdv A out s0 H xs Q E room grd h => ?_
  · obtain ⟨G, args, QD, ED, hs, ra, nd, h, _⟩ := h
    exact ra.len.trans (p args QD ED h).1
  · obtain ⟨G, args, QD, ED, hs, ra, nd, h, kq, ke⟩ := h
    obtain ⟨hn, q⟩ := p args QD ED h
    have tk : Takes (cxOf (L2.CX P w) P w K mg base N qual (defScope st) f cdv A out s0 H E) (WD K (basOf xs args H G) (endX ps.length ED)) :=
      (takes_of rfl rfl rfl rfl).imp fun cls d σ H' z => by
        obtain ⟨G', ρ', x, w', rfl, rx, z⟩ := z
        have z : ED x (ρ'.take ps.length) := z
        rw [← hn] at z
        exact ke d H' G' x _ (rel_back ra w') rx z
    refine ⟨_, d cdv A out s0 H (basOf xs args H G) _ E _ room grd (kpOf_ix 0 ra) tk, G, _, _, rel_start hs ra nd, by rw [hn]; exact q, fun σ' H' G' ρ' w' x z => ?_, fun v σ' H' G' r ρ' J w' x qv z => ?_, fun _ _ _ _ _ _ z => z, fun _ _ _ _ _ _ z => z⟩
    · have z : QD (.dat .non) (ρ'.take ps.length) := z
      rw [← hn] at z
      exact kq .non H' G' (.dat .non) _ (rel_back ra w') .non z
    · cases r with
      | dat d =>
        have z : QD (.dat d) (ρ'.take ps.length) := z
        rw [← hn] at z
        exact kq v H' G' (.dat d) _ (rel_back ra w') (rel_res ra w' qv (nob_dat d)) z
      | own o =>
        have z : QD (.own o) (ρ'.take ps.length) := z
        rw [← hn] at z
        exact kq v H' G' (.own o) _ (rel_back ra w') (rel_res ra w' qv (nob_own o)) z
      | bor i => exact z.elim
/-- where it raises nothing -/
def calmSp (sp : DSp) : DSp := fun a Q _ => sp a Q noX
theorem FnG.calm {k : Nat} {f : Addr} {fd : FuncData} {ps : List Str} {sp : DSp} (F : FnG P w K mg base (L2.CX P w) k f fd ps (toSp K sp)) : FnG P w K mg base CX0 k f fd ps (toSp K (calmSp sp)) := by
  have go : ∀ {xs : List V} {H : Hp} {Q : VK} {E : XK}, toSp K (calmSp sp) xs H Q E → toSp K sp xs H Q E0 := fun {xs H Q E} h => by
    obtain ⟨G, args, QD, ED, h1, h2, h3, h4, h5, _⟩ := h
    exact ⟨G, args, QD, noX, h1, h2, h3, h4, h5, fun _ _ _ _ _ _ _ z => z.elim⟩
  refine ⟨fun xs G Q E h => F.len xs G Q E0 (go h), fun A out s G ar us xs Q E room grd env bind vals h => codeAny_mono (F.run A out s G ar us xs Q E0 room grd env bind vals (go h)) fun res s2 q => ?_⟩
  match res, q with
  | .ok (.ret u), q => exact q
  | .ok .next, q => exact q
  | .ok .brk, q => exact q
  | .ok .cont, q => exact q
  | .error ex, q =>
    obtain ⟨_, _, _, _, _, _, _, _, _, _, _, _, z⟩ := q
    exact z.elim
theorem KnownX.calm {k : Nat} {x : Str} {sp : DSp} (h : KnownX P w K mg base k x sp) : KnownP P w K mg base k x (calmSp sp) := by
  obtain ⟨f, fd, ps, F, h⟩ := h.ex
  exact ⟨f, fd, ps, F.calm, h⟩
theorem MkX.calm {k : Nat} {x : Str} {C : Addr} {sp : DSp} (h : MkX P w K mg base k x C sp) : MkP P w K mg base k x C (calmSp sp) := by
  obtain ⟨f, fd, ps, M, F, h⟩ := h.ex
  exact ⟨f, fd, ps, M, F.calm, h⟩
end
end DL

set_option Elab.async false
set_option maxRecDepth 100000
set_option maxHeartbeats 4000000
/-! DX4: try over data, with several except clauses. -/
namespace DL
open PySem PySem.Spec PyProof.Rows L2
/-- a clause: its class, the slot of its name, what its suite computes -/
abbrev ClD := Addr × Option Nat × (Xc → SD)
/-- behind a suite that has the name of slot i: the name is gone -/
def goneD (i : Nat) (DD : EndsD) : EndsD := { nx := fun ρ => DD.nx (ρ.set i .no), rt := DD.rt, bk := fun ρ => DD.bk (ρ.set i .no), ct := fun ρ => DD.ct (ρ.set i .no) }
def clD (ks : List Nat) (C : Addr) (sfx : Xc → SD) (DD : EndsD) (x : Xc) (ρ : Rho) : Option Nat → Prop
  | none => sfx x DD ρ
  | some i => x.C = C ∧ i ∉ ks ∧ i < ρ.length ∧ sfx x (goneD i DD) (ρ.set i .no)
def pickD (c : Bool) (z u : Prop) : Prop := if c = true then z else u
def wCls (ks : List Nat) (em : Addr → Addr → Option Bool) (EE : XD) (DD : EndsD) : List ClD → XD
  | [] => EE
  | q :: r => fun x ρ => lk (em x.C q.1) fun c => pickD c (clD ks q.1 q.2.2 DD x ρ q.2.1) (wCls ks em EE DD r x ρ)
def wTry (ks : List Nat) (em : Addr → Addr → Option Bool) (EE : XD) (sdB : XD → SD) (l : List ClD) : SD := fun DD ρ => sdB (wCls ks em EE DD l) DD ρ
/-- which exception which clause takes -/
def emK (K : PySem.W.Frag) (x c : Addr) : Option Bool := PySem.W.exmOne K (.ref x) (.ref c)
def tsD (K : PySem.W.Frag) (ks : List Nat) (q : ClD) : Suit := fun a cls d D σ H => ∃ (b' : Bas) (x : Xc), match q.2.1 with
  | none => b'.kp.map (·.1) = ks ∧ liftS K b' (q.2.2 x) D σ H
  | some i => b'.kp.map (·.1) = i :: ks ∧ (i, a) ∈ b'.kp ∧ x.C = q.1 ∧ cls = .ref x.C ∧ RX K b'.B b'.G0 d x.l ∧ liftS K b' (q.2.2 x) D σ H
def toN (K : PySem.W.Frag) (ks : List Nat) (q : ClD) : Value × Option Nat × Suit := (.ref q.1, q.2.1, tsD K ks q)
/-- what is shown of a suite -/
def SufD (X : Cx) (ks : List Nat) (C : Addr) (sts : List Stmt) (sfx : Xc → SD) : Option Nat → Prop
  | none => ∀ (a : Addr) (oe : Obj) (cls : Value) (d : Option Addr) (pn : List (Addr × Obj)) (b' : Bas) (x : Xc), Zc cls d oe → (∃ vs, oe.data = .fields vs) → b'.kp.map (·.1) = ks → PSsD (X.suite a ((a, oe) :: pn)) b' sts (sfx x)
  | some i => ∀ (a : Addr) (oe : Obj) (cls : Value) (d : Option Addr) (pn : List (Addr × Obj)) (b' : Bas) (x : Xc), Zc cls d oe → (∃ vs, oe.data = .fields vs) → b'.kp.map (·.1) = i :: ks → (i, a) ∈ b'.kp → x.C = C → cls = .ref x.C → RX X.K b'.B b'.G0 d x.l →
      PSsD (X.suite a ((a, oe) :: pn)) b' sts (sfx x)
inductive HdsD (X : Cx) (ks : List Nat) : List ExceptHandler → List ClD → Prop
  | nil : HdsD X ks [] []
  | cons {x : Str} {C : Addr} {o : Option Str} {i : Option Nat} {sfx : Xc → SD} {st : Stmt} {sts : List Stmt} {p1 p2 : Pos} {hds : List ExceptHandler} {l : List ClD} (nm : Names X x (.ref C)) (sl : slotOf X o i) (su : SufD X ks C (st :: sts) sfx i) (r : HdsD X ks hds l) :
      HdsD X ks (.ExceptHandler (some (.Name x p1)) o (st :: sts) p2 :: hds) ((C, i, sfx) :: l)
theorem HdsD.n {X : Cx} {ks : List Nat} {hds : List ExceptHandler} {l : List ClD} (h : HdsD X ks hds l) : HdsN X hds (l.map (toN X.K ks)) := by
  induction h with
  | nil => exact .nil
  | @cons x C o i sfx st sts p1 p2 hds l nm sl su r ih =>
    refine .cons nm sl (fun a oe cls d pn zc fl => ⟨fun pins s σ H D I q => ?_⟩) ih
    obtain ⟨b', x, q⟩ := q
    cases i with
    | none =>
      obtain ⟨h1, q⟩ := q
      exact (su a oe cls d pn b' x zc fl h1).run pins s σ H D I q
    | some i =>
      obtain ⟨h1, h2, h3, h4, h5, q⟩ := q
      exact (su a oe cls d pn b' x zc fl h1 h2 h3 h4 h5).run pins s σ H D I q
section
variable {K : PySem.W.Frag} {b : Bas} {σ σ2 : L2.St} {H G H2 G2 : Hp} {ρ ρ2 : Rho} {ks : List Nat} {i : Nat} {a : Addr}
/-- the ground of a suite with a name -/
def Bas.err (b : Bas) (G : Hp) (i : Nat) (a : Addr) : Bas := { b with G0 := G, kp := (i, a) :: b.kp, ali := i :: b.ali }
theorem Rel.err (w : Rel K b σ H G ρ) (hk : b.kp.map (·.1) = ks) (hi : i ∉ ks) (hl : i < ρ.length) : Rel K (b.err G i a) (σ.set i (some (.ref a))) H G (ρ.set i .no) := by
  have off : ∀ {j : Nat} {s : Sl}, s ≠ .no → (ρ.set i .no)[j]? = some s → j ≠ i ∧ ρ[j]? = some s := fun {j s} n e => by
    rcases set_at e with ⟨rfl, e, _⟩ | ⟨hn, e⟩
    · exact absurd e n
    · exact ⟨hn, e⟩
  refine ⟨w.sub, w.bas, Ex.refl G, fun _ _ h => h, by rw [List.length_set, List.length_set]; exact w.len, fun j d e => ?_, fun j o e => ?_, fun j k o1 o2 c e1 e2 e3 e4 => ?_, fun p hp => ?_⟩
  · obtain ⟨hn, e⟩ := off (by intro z; cases z) e
    obtain ⟨v, z1, z2⟩ := w.dat j d e
    exact ⟨v, by rw [set_ne hn]; exact z1, z2⟩
  · obtain ⟨hn, e⟩ := off (by intro z; cases z) e
    obtain ⟨c, h, z1, z2⟩ := w.own j o e
    exact ⟨c, h, by rw [set_ne hn]; exact z1, z2⟩
  · obtain ⟨n1, e1⟩ := off (by intro z; cases z) e1
    obtain ⟨n2, e2⟩ := off (by intro z; cases z) e2
    rw [set_ne n1] at e3
    rw [set_ne n2] at e4
    exact w.dis j k o1 o2 c e1 e2 e3 e4
  · rcases List.mem_cons.mp hp with rfl | hp
    · exact ⟨set_eq (by rw [w.len]; exact hl), .inl List.mem_cons_self⟩
    · have hn : p.1 ≠ i := fun e => hi (by rw [← hk, ← e]; exact List.mem_map_of_mem hp)
      obtain ⟨z1, z2 | ⟨o, z2⟩⟩ := w.kep p hp
      · exact ⟨by rw [set_ne hn]; exact z1, .inl (List.mem_cons_of_mem _ z2)⟩
      · exact ⟨by rw [set_ne hn]; exact z1, .inr ⟨o, by rw [set_ne hn]; exact z2⟩⟩
end
section
variable {X : Cx} {b : Bas} {ks : List Nat} {EE : XD} {DD : EndsD} {D : Ends}
end

/-! ### err.f in a suite -/
def kXf (Q : R → Rho → Prop) (ρ : Rho) (d : D) : Prop := Q (.dat d) ρ
def wXf (f : Str) (x : Xc) : TD := fun ρ Q => lk (x.l.bind fun l => l.lookup f) (kXf Q ρ)
theorem RpF.get {K : PySem.W.Frag} {G : Hp} {f : Str} : ∀ {fs : List (Str × V)} {l : List (Str × D)} {d : D}, RpF K G fs l → l.lookup f = some d → ∃ v, fs.lookup f = some v ∧ Rp K G v d
  | _, _, _, .nil, e => by cases e
  | (g, x) :: fs, (_, y) :: l, d, .cons h1 h2, e => by
    rw [List.lookup_cons] at e ⊢
    cases q : f == g with
    | true => rw [q] at e; cases e; exact ⟨x, rfl, h1⟩
    | false => rw [q] at e; exact RpF.get h2 e
section
variable {ρ : Rho} {Q : R → Rho → Prop} {DD : EndsD} {EE : XD} {ks : List Nat} {em : Addr → Addr → Option Bool} {sdB : XD → SD} {l : List ClD} {C : Addr} {sfx : Xc → SD} {x : Xc} {i : Nat} {o : Option Nat} {f : Str} {d : D} {z u : Prop} {fs : List (Str × D)}
theorem e_try : wTry ks em EE sdB l DD ρ = sdB (wCls ks em EE DD l) DD ρ := rfl
theorem k_cls0 : wCls ks em EE DD [] = EE := rfl
theorem k_cls1 : wCls ks em EE DD ((C, o, sfx) :: l) x ρ = lk (em x.C C) fun c => pickD c (clD ks C sfx DD x ρ o) (wCls ks em EE DD l x ρ) := rfl
theorem pick_t : pickD true z u = z := rfl
theorem pick_f : pickD false z u = u := by unfold pickD; simp
theorem cl_n : clD ks C sfx DD x ρ none = sfx x DD ρ := rfl
theorem cl_s : clD ks C sfx DD x ρ (some i) = (x.C = C ∧ i ∉ ks ∧ i < ρ.length ∧ sfx x (goneD i DD) (ρ.set i .no)) := rfl
theorem gone_nx : (goneD i DD).nx ρ = DD.nx (ρ.set i .no) := rfl
theorem gone_rt {r : R} : (goneD i DD).rt r ρ = DD.rt r ρ := rfl
theorem e_xf : wXf f x ρ Q = lk (x.l.bind fun l => l.lookup f) (kXf Q ρ) := rfl
theorem k_xf : kXf Q ρ d = Q (.dat d) ρ := rfl
end
end DL

set_option Elab.async false
set_option maxRecDepth 100000
set_option maxHeartbeats 4000000
/-! DX5: own exceptions with an own __init__ of one field; Base.__init__(self, ..) of an own class above. -/
namespace DL
open PySem PySem.Spec PyProof.Rows L2
section
variable {X : Cx} {e : Expr} {es : List Expr} {ta : TA} {x : Str} {L : Addr} {p1 p2 pos : Pos}
/-- L.__init__(self, ..), L an own class that has ValueError's -/
theorem pe_veinitC {pl : Sem Bool} (hg : Gl X x) (hm : X.mg x = some (.ref L)) (r : ClX.CRead X.K L (.type "type")) (cv : PySem.W.findCls X.K (.ref L) (.type "type") "__init__" = some (.val (.builtin "ValueError.__init__"))) (ha : PA X (e :: es) ta)
    (hd : (x == ("__debug__" : Str)) = false := by decide) (hs : starEach (e :: es) X.env = (false, eval e X.env) :: starEach es X.env := by rfl) (hp : (backTo pos (starEach es X.env)).any (·.1) = false := by rfl)
    (ht : eval (.Call (.Attribute (.Name x p1) "__init__" p2) (e :: es) [] pos) X.env = (do
      let ov ← eval (.Name x p1) X.env
      standAt p2.atName
      let (f, first) ← holding [ov] (getMethod ov "__init__" pl)
      callWith pos f first (backTo pos (starEach (e :: es) X.env)) (backToKw pos (keywordEach [] X.env))) := by rfl) :
    PE X (.Call (.Attribute (.Name x p1) "__init__" p2) (e :: es) [] pos) (tVeI X.K ta) := by
  refine ⟨fun pins s σ H Q I h => ?_⟩
  refine PySem.W.methodCall_KW (pl := pl) (thn ((pe_glob (pos := p1) (v := .ref L) hg hm rfl hd).run pins s σ H (fun v H1 => v = .ref L ∧ tVeI X.K ta σ H1 Q) I ⟨rfl, h⟩) fun u s1 ⟨y, H1, I1, ry, ey, q⟩ => ?_) ht
  subst ey
  obtain rfl : u = Value.ref L := ry
  refine PySem.W.method_cls I1.kIn r.ga (PySem.W.cls_value I1.kIn r.rd cv (by decide +kernel) ?_)
  refine PyProof.Rows.callWith_method1 (first := []) (thn (ha.run pos pins _ σ H1 _ (I1.tok _) q) fun us s2 ⟨vs, H2, I2, r2, a, C, ws, ev, hl, T, ea, q2⟩ => ?_) hs hp
  subst ev
  cases r2 with
  | @cons _ u0 _ ur ra rw' =>
    obtain rfl : u0 = Value.ref a := ra
    have size : ur.length ≤ sizeLine := by
      have := Paired.length rw'
      rw [sizeLine_eq]
      omega
    exact oinit_ok T I2 ea size fun s3 J => ⟨.non, H2, J, rfl, q2⟩
end
/-- what such an __init__ keeps: the exception at a gets its dict with one field -/
def spEx (C : Addr) (f : Str) (ok : V → Prop) : Sp := fun xs H Q _ => ∃ (a : Addr) (y : V), xs = [.ref a, y] ∧ ok y ∧ H a = some (exo a C none) ∧ ∀ dx, H dx = none → dx ≠ a → Q .non (upd (upd H dx (exd dx [(f, y)])) a (exo a C (some dx)))
structure ErrF (P : Program) (w : World) (K : PySem.W.Frag) (mg : Str → Option Value) (base : Heap) (x : Str) (C : Addr) (f : Str) (ok : V → Prop) : Prop where
  T : OexC K C
  gC : mg x = some (.ref C)
  ex : ∃ (fI : Addr) (fd : FuncData) (ps : List Str), PySem.W.findIn K (.ref C) "__init__" = some (some (.ref fI)) ∧ PySem.W.typeIn K (.ref fI) = some (.type "function") ∧ FnOk P w K mg base CX0 1 fI fd ps (spEx C f ok) ∧ Binds K fd ps []
def okI : D → Prop
  | .int i => i.natAbs.log2 < 1920
  | _ => False
def okIV (v : V) : Prop := ∃ i : Int, v = .int i ∧ i.natAbs.log2 < 1920
theorem okI_v {K : PySem.W.Frag} {G : Hp} {v : V} {d : D} (r : Rp K G v d) (h : okI d) : okIV v := by
  cases d with
  | int i => cases r; exact ⟨i, rfl, h⟩
  | _ => exact h.elim
def kRf2 (C : Addr) (f : Str) (ok : D → Prop) (EE : XD) (p : List D × Rho) : Prop := match p.1 with
  | [d] => ok d ∧ EE ⟨C, some [(f, d)]⟩ p.2
  | _ => False
def kRf1 (ks : List Nat) (C : Addr) (f : Str) (ok : D → Prop) (EE : XD) (rs : List R) (ρ : Rho) : Prop := lk (frzs ks rs ρ) (kRf2 C f ok EE)
def wRaiseF (ks : List Nat) (C : Addr) (f : Str) (ok : D → Prop) (EE : XD) (t : TAD) : SD := fun _ ρ => t ρ (kRf1 ks C f ok EE)
section
variable {X : Cx} {b : Bas} {ks : List Nat} {EE : XD} {C : Addr} {x f : Str} {e : Expr} {t : TAD} {p pos pos2 : Pos} {ok : D → Prop} {okv : V → Prop}
end
section
variable {ρ : Rho} {ks : List Nat} {EE : XD} {C : Addr} {f : Str} {ok : D → Prop} {t : TAD} {DD : EndsD} {rs : List R} {d : D}
theorem e_raiseF : wRaiseF ks C f ok EE t DD ρ = t ρ (kRf1 ks C f ok EE) := rfl
theorem k_rf1 : kRf1 ks C f ok EE rs ρ = lk (frzs ks rs ρ) (kRf2 C f ok EE) := rfl
theorem k_rf2 : kRf2 C f ok EE ([d], ρ) = (ok d ∧ EE ⟨C, some [(f, d)]⟩ ρ) := rfl
end
end DL

set_option Elab.async false
set_option maxRecDepth 100000
set_option maxHeartbeats 4000000
/-! DX6: {k: v} of two constants; what a text must have for its errors; promises with exceptions by their text. -/
namespace DL
open PySem PySem.Spec PyProof.Rows L2
def wDct1 (k : Key) (d : D) : TD := fun ρ Q => Q (.own (.dct [(k, d)])) ρ
theorem e_dct1 {ρ : Rho} {Q : R → Rho → Prop} {k : Key} {d : D} : wDct1 k d ρ Q = Q (.own (.dct [(k, d)])) ρ := rfl

/-! ### what a text must have -/
theorem errC_mk {K : PySem.W.Frag} {C : Addr} (q : PySem.W.excIn K C [.type "ValueError", .type "Exception", .type "BaseException", .type "object"] "ValueError.__new__" = true) (k : PySem.W.keepIn K (.ref C) = true)
    (e : PySem.W.subIn K (.ref C) (.type "BaseException") = some true) (t : PySem.W.typeIn K (.ref C) = some (.type "type")) : ErrC K C := ⟨q, k, e, t⟩
theorem oexC_mk {K : PySem.W.Frag} {C N : Addr} {nm q : Str} {bs bm : List Value} {sn : List Str} {sub : List Value} {ab : Bool} {col : Option Bool} {dd : Option Addr} {k0 k1 k2 k3 k5 : Option Value} (l : K.lookup C = some (excClassObj nm q C N bs bm true sn sub ab col dd k0 k1 k2 k3 k5 "ValueError.__new__")) (r : PySem.HandSPX.refsVE bm = true)
    (s : PySem.W.findIn K (.ref C) "__setattr__" = some (some (.builtin "object.__setattr__"))) (e : PySem.W.subIn K (.ref C) (.type "BaseException") = some true) (t : PySem.W.typeIn K (.ref C) = some (.type "type")) (k : PySem.W.keepIn K (.ref C) = true) : OexC K C :=
  ⟨⟨nm, q, N, bs, bm, sn, sub, ab, col, dd, k0, k1, k2, k3, k5, l, r⟩, s, e, t, k⟩
/-- an own error's own __init__ -/
structure ErrInit (K : PySem.W.Frag) (C : Addr) (qual : Str) (st : Stmt) : Prop where
  ex : ∃ (f : Addr) (fd : FuncData), Fun K "__init__" qual st f fd ∧ PySem.W.findIn K (.ref C) "__init__" = some (some (.ref f)) ∧ PySem.W.typeIn K (.ref f) = some (.type "function")
theorem errInit_mk {K : PySem.W.Frag} {C : Addr} {qual : Str} {st : Stmt} {f : Addr} {oc : Value} {od an : Option Addr} {osl : Array (Option Value)} {kV doc pm cdv ct : Value} (a : PySem.W.findIn K (.ref C) "__init__" = some (some (.ref f))) (i : PySem.W.typeIn K (.ref f) = some (.type "function"))
    (l : K.lookup f = some ⟨oc, od, .func (PySem.W.fnOf "__init__" qual (defArgs st) (defBody st) (defScope st) .none kV doc pm an cdv ct), osl⟩) (c : PySem.W.codeIn K cdv qual = true) (k : PySem.W.keepIn K (.ref f) = true) : ErrInit K C qual st := ⟨f, _, fun_mk (st := st) l c k, a, i⟩
theorem xfC_mk {K : PySem.W.Frag} {C : Addr} (a : PySem.W.findIn K (.ref C) "__getattribute__" = some (some (.builtin "BaseException.__getattribute__"))) (g : PySem.W.findIn K (.ref C) "__getattr__" = some none)
    (e : PySem.W.subIn K (.ref C) (.type "BaseException") = some true) (h : PySem.W.hasDictIn K C = true) : XfC K C := ⟨a, g, e, h⟩
/-- the class above that has ValueError's __init__ -/
structure BasE (K : PySem.W.Frag) (L : Addr) : Prop where
  r : ClX.CRead K L (.type "type")
  v : PySem.W.findCls K (.ref L) (.type "type") "__init__" = some (.val (.builtin "ValueError.__init__"))
theorem basE_mk {K : PySem.W.Frag} {L : Addr} (r : PySem.W.readsIn K L (.type "type") = true) (s : PySem.W.specialIn K (.ref L) "__getattribute__" = some (some (.builtin "type.__getattribute__"))) (v : PySem.W.findCls K (.ref L) (.type "type") "__init__" = some (.val (.builtin "ValueError.__init__"))) : BasE K L := ⟨⟨r, s⟩, v⟩
section
variable {P : Program} {w : World} {K : PySem.W.Frag} {mg : Str → Option Value} {base : Heap} {k : Nat} {C : Addr} {x qual : Str} {st : Stmt} {N ps : List Str} {sp : DSp} {rd : XD → List Nat → SD}
end
/-- the end of an __init__ of two statements: the base class' one, then the field -/
theorem exEnd {K : PySem.W.Frag} {C a : Addr} {f : Str} {y : V} {H : Hp} {Q : VK} {T : TE} {σ : L2.St} (TC : OexC K C) (no : PySem.W.findIn K (.ref C) f = some none) (h0 : σ[0]? = some (some (.ref a))) (h1 : σ[1]? = some (some y)) (ha : H a = some (exo a C none)) (hT : ∀ Q' : VK, (∀ m, Q' (.str m) H) → T σ H Q')
    (q : ∀ dx, H dx = none → dx ≠ a → Q .non (upd (upd H dx (exd dx [(f, y)])) a (exo a C (some dx)))) : (tSeq (tDrop (tVeI K (tCons (tVar 0) (tCons T tNil)))) (tOst K f (tVar 0) (tVar 1))) { nx := fun _ H' => Q .non H', rt := Q } σ H := by
  refine ⟨.ref a, h0, hT _ fun m => ?_⟩
  refine ⟨a, C, [.str m], rfl, by simp, TC, ha, ?_⟩
  exact ⟨y, h1, .ref a, h0, a, C, rfl, TC, no, .inl ⟨ha, q⟩⟩
end DL

set_option Elab.async false
set_option maxRecDepth 100000
set_option maxHeartbeats 4000000
/-! DX7: the text of an error with one number in it. -/
namespace DL
open PySem PySem.Spec PyProof.Rows L2
theorem veText {σ : L2.St} {H : Hp} {Q : VK} {m : Str} {i : Int} (h1 : σ[1]? = some (some (.int i))) (hi : i.natAbs.log2 < 1920) (hm : m.length ≤ 1000) (hQ : ∀ t, Q (.str t) H) : tJs [tC (.str m), tFmt (tVar 1)] Str.empty σ H fun out H1 => Q (.str out) H1 := by
  have ln := int_text_len_1921 hi
  have e0 : (Str.empty ++ m).length = m.length := by
    rw [Str.length_append]
    show 0 + _ = _
    omega
  refine ⟨m, rfl, by rw [e0, sizeLine_eq]; omega, .int i, h1, .inr ⟨i, rfl, hi, toString i, rfl, ?_, hQ _⟩⟩
  rw [Str.length_append, e0, sizeLine_eq]
  have : ((toString i : String) : Str).length ≤ 1921 := ln
  omega
end DL

set_option Elab.async false
set_option maxRecDepth 100000
set_option maxHeartbeats 4000000
/-! DX8: operators of own objects at the model: own with own, own with int, int with own; in place without an __i..__ of the class. -/
namespace DL
open PySem PySem.Spec PyProof.Rows L2
section
open PySem.W
variable {prog : Program} {w : World} {A : Around} {E : Value → Shared → Prop} {s : Shared} {K : PySem.W.Frag} {x y C L f : Addr} {h₀ : Heap} {m : Str → Option Value} {ox oy : Obj} {od od2 : Option Obj} {nm : String} {rc fo ro : Option Value}
end
end DL

set_option Elab.async false
set_option maxRecDepth 100000
set_option maxHeartbeats 4000000
/-! DX9: operators of own objects that may raise, by what stands on either side; name op= value. -/
namespace DL
open PySem PySem.Spec PyProof.Rows L2
def noE : XD := fun _ _ => False
section
variable {X : Cx} {k : Nat} {C : Addr} {nm : String} {spL spR : DSp} {W : WX}
end
def kOx2 (C : Addr) (EE : XD) (spL spR : DSp) (Q : R → Rho → Prop) (p : List D × Rho) : Prop := match p.1 with
  | [.ins C1 l1, .ins C2 l2] => C1 = C ∧ C2 = C ∧ spL [.dat (.ins C1 l1), .dat (.ins C2 l2)] (kCx3 Q p.2) (kCx4 EE p.2)
  | [.ins C1 l1, .int i] => C1 = C ∧ spL [.dat (.ins C1 l1), .dat (.int i)] (kCx3 Q p.2) (kCx4 EE p.2)
  | [.int i, .ins C1 l1] => C1 = C ∧ spR [.dat (.ins C1 l1), .dat (.int i)] (kCx3 Q p.2) (kCx4 EE p.2)
  | _ => False
def kOx1 (ks : List Nat) (C : Addr) (EE : XD) (spL spR : DSp) (Q : R → Rho → Prop) (r1 r2 : R) (ρ : Rho) : Prop := lk (frzs ks [r1, r2] ρ) (kOx2 C EE spL spR Q)
def kOx0 (ks : List Nat) (C : Addr) (EE : XD) (spL spR : DSp) (tb : TD) (Q : R → Rho → Prop) (r1 : R) (ρ : Rho) : Prop := tb ρ (kOx1 ks C EE spL spR Q r1)
/-- a op b, by the class's defs -/
def wOpX (ks : List Nat) (C : Addr) (EE : XD) (spL spR : DSp) (ta tb : TD) : TD := fun ρ Q => ta ρ (kOx0 ks C EE spL spR tb Q)
section
variable {X : Cx} {b : Bas} {k : Nat} {spL spR : DSp} {pos : Pos} {ea eb : Expr} {ta tb : TD} {ks : List Nat} {C : Addr} {EE : XD} {nm : String}
end

/-! ### n op= e, n's value of the class -/
def slR (i : Nat) : Option Sl → Option R
  | some (.dat d) => some (.dat d)
  | some (.own _) => some (.bor i)
  | _ => none
def kAx3 (i : Nat) (DD : EndsD) (r : R) (ρ : Rho) : Prop := match r with
  | .bor _ => False
  | r => DD.nx (ρ.set i r.sl)
def kAx1 (ks : List Nat) (C : Addr) (spL : DSp) (i : Nat) (DD : EndsD) (r0 r : R) (ρ : Rho) : Prop := i ∉ ks ∧ lk (frzs ks [r0, r] ρ) (kOx2 C noE spL (fun _ _ _ => False) (kAx3 i DD))
def wAugX (ks : List Nat) (C : Addr) (spL : DSp) (i : Nat) (ta : TD) : SD := fun DD ρ => lk (slR i ρ[i]?) fun r0 => ta ρ (kAx1 ks C spL i DD r0)
section
variable {X : Cx} {b : Bas} {k : Nat} {spL spR : DSp} {pos pos' : Pos} {e : Expr} {ta : TD} {ks : List Nat} {C : Addr} {nm : String} {i : Nat} {x : Str}
end
section
variable {ρ : Rho} {Q : R → Rho → Prop} {r r2 : R} {ks : List Nat} {C : Addr} {l l2 : List (Str × D)} {ta tb : TD} {spL spR : DSp} {i : Int} {EE : XD} {DD : EndsD} {j : Nat} {d : D} {o : Own}
theorem e_opX : wOpX ks C EE spL spR ta tb ρ Q = ta ρ (kOx0 ks C EE spL spR tb Q) := rfl
theorem k_ox0 : kOx0 ks C EE spL spR tb Q r ρ = tb ρ (kOx1 ks C EE spL spR Q r) := rfl
theorem k_ox1 : kOx1 ks C EE spL spR Q r r2 ρ = lk (frzs ks [r, r2] ρ) (kOx2 C EE spL spR Q) := rfl
theorem k_ox2a : kOx2 C EE spL spR Q ([.ins C l, .ins C l2], ρ) = spL [.dat (.ins C l), .dat (.ins C l2)] (kCx3 Q ρ) (kCx4 EE ρ) := propext ⟨fun h => h.2.2, fun h => ⟨rfl, rfl, h⟩⟩
theorem k_ox2b : kOx2 C EE spL spR Q ([.ins C l, .int i], ρ) = spL [.dat (.ins C l), .dat (.int i)] (kCx3 Q ρ) (kCx4 EE ρ) := propext ⟨fun h => h.2, fun h => ⟨rfl, h⟩⟩
theorem k_ox2c : kOx2 C EE spL spR Q ([.int i, .ins C l], ρ) = spR [.dat (.ins C l), .dat (.int i)] (kCx3 Q ρ) (kCx4 EE ρ) := propext ⟨fun h => h.2, fun h => ⟨rfl, h⟩⟩
theorem e_augX : wAugX ks C spL j ta DD ρ = lk (slR j ρ[j]?) fun r0 => ta ρ (kAx1 ks C spL j DD r0) := rfl
theorem sl_dat : slR j (some (.dat d)) = some (.dat d) := rfl
theorem sl_own : slR j (some (.own o)) = some (.bor j) := rfl
theorem k_ax1 : kAx1 ks C spL j DD r r2 ρ = (j ∉ ks ∧ lk (frzs ks [r, r2] ρ) (kOx2 C noE spL (fun _ _ _ => False) (kAx3 j DD))) := rfl
theorem k_ax3d : kAx3 j DD (.dat d) ρ = DD.nx (ρ.set j (.dat d)) := rfl
theorem k_ax3o : kAx3 j DD (.own o) ρ = DD.nx (ρ.set j (.own o)) := rfl
end
end DL

set_option Elab.async false
set_option maxRecDepth 100000
set_option maxHeartbeats 4000000
/-! DX10: what of the text an own operator must have; a class's operator from its defs. -/
namespace DL
open PySem PySem.Spec PyProof.Rows L2
section
variable {P : Program} {w : World} {K : PySem.W.Frag} {mg : Str → Option Value} {base : Heap} {k : Nat} {C : Addr} {m qual : Str} {st : Stmt} {N ps : List Str} {sp : DSp}
end
section
variable {P : Program} {w : World} {K : PySem.W.Frag} {mg : Str → Option Value} {base : Heap} {j k n : Nat} {C : Addr} {nm : String} {m qual mr qr : Str} {st sr : Stmt} {spL spR : DSp}
end
end DL

set_option Elab.async false
set_option maxRecDepth 100000
set_option maxHeartbeats 4000000
/-! DX11: an exception that is kept under a name behind its suite. -/
namespace DL
open PySem PySem.Spec PyProof.Rows L2
theorem exg_ok {P : Program} {w : World} {H : Hp} {h : Heap} {e C : Addr} {d : Option Addr} {o : Obj} {vs : Array Value} (he : h.get? e = some o) (z : Zc (.ref C) d o) (dd : o.data = .fields vs) : ObjOk P w H h e (exg e C d) :=
  ⟨⟨o, he, z.1, z.2, vs, dd⟩, ⟨_, he⟩, fun h1 h2 z k => by
    obtain ⟨o, z1, z2⟩ := z
    exact ⟨o, k _ z1, z2⟩⟩
theorem exg_at {P : Program} {w : World} {H : Hp} {h : Heap} {e C : Addr} {d : Option Addr} (hok : HOk P w H h) (he : H e = some (exg e C d)) : ∃ o : Obj, h.get? e = some o ∧ o.cls = .ref C ∧ o.dict = d ∧ ∃ vs, o.data = .fields vs := by
  have x : ObjOk P w H h e (.ext fun h => ∃ o : Obj, h.get? e = some o ∧ o.cls = .ref C ∧ o.dict = d ∧ ∃ vs, o.data = .fields vs) := hok e _ he
  exact x.1
section
variable {X : Cx} {pins : List (Addr × Obj)} {σ : L2.St} {H : Hp} {s : Shared}
end
section
variable {X : Cx} {Wout : WX} {pins : List (Addr × Obj)} {D : Ends} {C : Addr} {i j : Nat} {x n y : Str} {p1 p2 p3 p4 p5 : Pos}
end
end DL

set_option Elab.async false
set_option maxRecDepth 100000
set_option maxHeartbeats 4000000
/-! DX12: kept exceptions over data: try with a clause that keeps, isinstance, fields. -/
namespace PySem.W
open PySem PySem.Spec PySem.Calls PyProof.Rows
section
variable {prog : Program} {w : World} {A : Around} {E : Value → Shared → Prop} {s : Shared} {K : Frag} {x D : Addr} {ox : Obj} {od : Option Obj}
theorem findObj_dataO {C : Addr} {name : Str} {a g : Value} (hc : (clsIn K C).isSome = true) (ha : findIn K (.ref C) name = some (some a)) (hg : specialIn K a "__get__" = some (some g)) (ht : takesIn K a = some true) : findObj K C od name = some (.bind g a) := by
  obtain ⟨cd, hc⟩ := Option.isSome_iff_exists.mp hc
  unfold findObj
  rw [hc, Option.bind_some, ha, Option.bind_some]
  simp [hg, ht]
theorem kin_classO {Q : Option Value → Shared → Prop} (hga : findIn K (.ref D) "__getattribute__" = some (some (.builtin "BaseException.__getattribute__"))) (hgt : findIn K (.ref D) "__getattr__" = some none) (hsub : subIn K (.ref D) (.type "BaseException") = some true)
    (hdct : hasDictIn K D = true) (ha : findIn K (.ref D) "__class__" = some (some (.builtin "object.__class__")))
    (hn : specialIn K (.builtin "object.__class__") "__get__" = some (some (.builtin "getset_descriptor.__get__"))) (htk : takesIn K (.builtin "object.__class__") = some true) (hm : mroIn K D (.type "object") = some true)
    (X : K.In s.heap) (I : InstAt s.heap x ox D od) (h : Q (some (.ref D)) { s with toks := s.toks + 1 }) : wpAny (model prog w) A (getAttr? (.ref x) "__class__") Q E s := by
  have hf : findObj K D od "__class__" = some (.bind (.builtin "getset_descriptor.__get__") (.builtin "object.__class__")) := findObj_dataO (by obtain ⟨cd, hc, _⟩ := any_some hdct; rw [hc]; rfl) ha hn htk
  obtain ⟨hp, g, d, t, os⟩ := s
  have L0 := I.type (M := model prog w)
  have L1 := looks_findIn (M := model prog w) X hga
  have L2 := looks_findIn (M := model prog w) X hgt
  have L3 := looks_find (M := model prog w) X I hf
  have sub : Looks (model prog w) hp (isInstance (.ref x) (.type "BaseException")) true := L0.andThen (looks_subIn X hsub)
  have hx0 : (false && onTheHeap (Value.builtin "BaseException.__getattribute__")) = false := rfl
  have hx2 : (Value.builtin "BaseException.__getattribute__" == Value.builtin "object.__getattribute__") = false := by decide +kernel
  have hx1 : (onTheHeap (Value.ref D) && Value.builtin "BaseException.__getattribute__" == Value.builtin "object.__getattribute__") = false := by rw [hx2]; rfl
  unfold getAttr? getAttrBy? getAttrBy
  refine wpAny_bind (wpAny_mkText (wpAny_bind (wpAny_attempt (wpAny_holding (wpAny_bind (L0.at (wpAny_bind (L1.at ?_))))))))
  show wpAny _ _ (if (onTheHeap (Value.ref D) && Value.builtin "BaseException.__getattribute__" == Value.builtin "object.__getattribute__") = true then _ else _) _ _ _
  rw [hx1, if_neg Bool.false_ne_true]
  unfold getAttrByItsOwn hookBefore
  refine wpAny_bind ?_
  rw [if_pos (show onTheHeap (Value.ref D) = true from rfl)]
  refine L2.at ?_
  refine wpAny_bind (wpAny_attempt (wpAny_holding ?_))
  unfold callGetattribute
  rw [hx0, if_neg Bool.false_ne_true]
  unfold boundAndCalled
  rw [PySem.F.excAttr_ValueError.ga.bind (.ref x)]
  refine wpAny_bind (wpAny_pure ?_)
  show wpAny _ _ (call (.builtin "BaseException.__getattribute__") [.ref x, .str "__class__" t]) _ _ _
  refine wpAny_call (codeAny_call_builtin PySem.F.excAttr_ValueError.ga.plain PySem.F.entry_bexc_ga ?_)
  refine @check_slot (model prog w) _ _ ⟨hp, g, d, t + 1, os⟩ "BaseException.__getattribute__" "BaseException" "__getattribute__" (.ref x) [.str "__class__" t] [] _ (by decide +kernel) (by decide +kernel) sub (PySem.F.args_bexc_ga (.ref x) (.str "__class__" t)) ?_
  unfold Builtin.«object.__getattribute__»
  refine wpAny_bind (wpAny_of_eq (a := ((Value.ref x : Value), [Value.str "__class__" t])) (by first | rfl | (simp only [slotArgs]; rfl)) ?_)
  refine wpAny_bind (wpAny_pure (wpAny_bind (L0.at (wpAny_bind (L3.at ?_)))))
  show wpAny _ _ (holding [Value.builtin "object.__class__"] (call (.builtin "getset_descriptor.__get__") [.builtin "object.__class__", .ref x, .ref D]) >>= ret) _ _ _
  refine wpAny_bind (wpAny_holding (wpAny_call (class_get (s := ⟨hp, g, d, t + 1, os⟩) (ox := ox) (od := od) X I hm ?_)))
  refine wpAny_pure ?_
  show wpAny _ _ (handedOut (.ref D)) _ _ _
  rw [handedOut_of (v := .ref D) rfl]
  first
    | exact wpAny_pure (wpAny_pure h)
    | exact wpAny_pure h
    | exact wpAny_pure (wpAny_bind (wpAny_pure (wpAny_pure h)))
theorem kitx_excO (hga : findIn K (.ref D) "__getattribute__" = some (some (.builtin "BaseException.__getattribute__"))) (hgt : findIn K (.ref D) "__getattr__" = some none) (hsub : subIn K (.ref D) (.type "BaseException") = some true) (hdct : hasDictIn K D = true) (ha : findIn K (.ref D) "__class__" = some (some (.builtin "object.__class__")))
    (hn : specialIn K (.builtin "object.__class__") "__get__" = some (some (.builtin "getset_descriptor.__get__"))) (htk : takesIn K (.builtin "object.__class__") = some true) (hm : mroIn K D (.type "object") = some true) :
    KitX K (.ref x) (.ref D) (fun h => InstAt h x ox D od) where
  ty := fun _ _ _ I => I.type
  it := fun _ _ X _ => by
    obtain ⟨cdD, hcD, _⟩ := any_some hdct
    unfold clsIn at hcD
    split at hcD
    · rename_i c' d' cd' sl' ho
      intro A' Q' E' s' k q
      unfold isType loadHead
      exact wpAny_bind (wpAny_loadPart (k _ _ (X _ _ ho)) (wpAny_pure q))
    · cases hcD
  ne := fun h tp dd its n sl X htp => by
    obtain ⟨cdD, hcD, _⟩ := any_some hdct
    refine Bool.eq_false_iff.mpr fun q => ?_
    have e : D = tp := Value.ref.inj (beq_iff_eq.mp q)
    subst e
    unfold clsIn at hcD
    split at hcD
    · rename_i c' d' cd' sl' ho
      have z := (X _ _ ho).symm.trans htp
      cases z
    · cases hcD
  ca := fun X I k => kin_classO hga hgt hsub hdct ha hn htk hm X I k
end
end PySem.W
namespace DL
open PySem PySem.Spec PyProof.Rows L2
/-! ### try with a clause that keeps -/
def excD (x : Xc) : D := match x.l with
  | none => .exc0 x.C
  | some l => .exc x.C l
def keepD (ks : List Nat) (i j : Nat) (DD : EndsD) (x : Xc) (ρ : Rho) : Prop := i ∉ ks ∧ j ∉ ks ∧ i ≠ j ∧ DD.nx ((ρ.set j (.dat (excD x))).set i .no)
def wKeep (ks : List Nat) (em : Addr → Addr → Option Bool) (EE : XD) (DD : EndsD) (C : Addr) (i j : Nat) : XD := fun x ρ => lk (em x.C C) fun c => pickD c (keepD ks i j DD x ρ) (EE x ρ)
def wTryK (ks : List Nat) (em : Addr → Addr → Option Bool) (EE : XD) (C : Addr) (i j : Nat) (sdB : XD → SD) : SD := fun DD ρ => sdB (wKeep ks em EE DD C i j) DD ρ
section
variable {X : Cx} {b : Bas} {ks : List Nat} {EE : XD} {C : Addr} {i j : Nat} {x n y : Str} {p1 p2 p3 p4 p5 : Pos}
end
/-! ### isinstance of an exception -/
/-- the class of an exception, asked for another class -/
noncomputable def ikK (K : PySem.W.Frag) (C : Addr) (c : D) : Option Bool := open Classical in if ExcC K C then (match c with
  | .cls D => PySem.W.kitOne K (.ref C) (.ref D)
  | .ty n => PySem.W.kitOne K (.ref C) (.type n)
  | _ => none) else none
def gIsX (ik : Addr → D → Option Bool) : List D → Option Z
  | [.exc0 C, c] => (ik C c).map fun r => .d (.bl r)
  | [.exc C _, c] => (ik C c).map fun r => .d (.bl r)
  | _ => none
/-- isinstance(e, c), e an exception that is tracked -/
def rIsX (K : PySem.W.Frag) : List V → Hp → VK → Prop := fun xs H Q => ∃ (a C : Addr) (d : Option Addr) (c : V) (cv : Value) (r : Bool), xs = [.ref a, c] ∧ H a = some (exg a C d) ∧ (d = none ∨ ∃ dd fs, d = some dd ∧ H dd = some (.xd fs)) ∧ ClsV c cv ∧ ExcC K C ∧ PySem.W.kitOne K (.ref C) cv = some r ∧ Q (.bl r) H
theorem exg_inst {X : Cx} {pins : List (Addr × Obj)} {σ : L2.St} {H : Hp} {s : Shared} {a C : Addr} {d : Option Addr} (I : Inv X pins σ H s) (ha : H a = some (exg a C d)) (hd : d = none ∨ ∃ dd fs, d = some dd ∧ H dd = some (.xd fs)) : ∃ oe od, PySem.W.InstAt s.heap a oe C od ∧
    ∀ dd fs, d = some dd → H dd = some (.xd fs) → ∃ (o : Obj) (mA : Str → Option Value), od = some o ∧ (∀ f, PySem.W.lookIn f o = some (mA f)) ∧ ∀ f, RelO (fs.lookup f) (mA f) := by
  obtain ⟨oe, g, hc, hdd, vs, hv⟩ := exg_at I.hok ha
  have nc : PySem.W.notCls oe = true := by unfold PySem.W.notCls; rw [hv] <;> rfl
  rcases hd with rfl | ⟨dd, fs, rfl, h2⟩
  · refine ⟨oe, none, ⟨g, hc, nc, ?_⟩, fun dd fs e => by cases e⟩
    rw [hdd]; trivial
  · have hx : ObjOk X.prog X.w H s.heap dd (.xd fs) := I.hok dd _ h2
    obtain ⟨mA, hns, hr⟩ := hx
    obtain ⟨od, ho, hl⟩ := lookIn_ns hns
    refine ⟨oe, some od, ⟨g, hc, nc, by rw [hdd]; exact ho⟩, fun dd' fs' e e2 => ?_⟩
    cases e
    rw [h2] at e2
    cases e2
    exact ⟨od, mA, rfl, hl, hr⟩
theorem call_isX {X : Cx} : CallR X (.builtin "isinstance") (rIsX X.K) := by
  intro pins s σ H xs us Q I r h
  obtain ⟨a, C, d, c, cv, b, rfl, ha, hd, hcv, E, e, q⟩ := h
  cases r with
  | cons rx rr =>
    cases rr with
    | cons rt rr =>
      cases rr
      cases rx
      have ec := hcv.eq rt
      subst ec
      obtain ⟨oe, od, J, _⟩ := exg_inst I ha hd
      exact PySem.W.kia_one (PySem.W.kitx_excO E.hg E.hk E.hs E.hd E.ha E.hn E.ht E.hm) I.kIn J e (fun z => nomatch z) fun tk => ⟨.bl b, H, I.kept (t' := tk) fun _ _ z => z, rfl, q⟩
theorem ik_get {K : PySem.W.Frag} {C : Addr} {c : D} {r : Bool} {v : V} {H G : Hp} (h : ikK K C c = some r) (rc : Rc K H G v c) : ExcC K C ∧ ∃ cv, ClsV v cv ∧ PySem.W.kitOne K (.ref C) cv = some r := by
  unfold ikK at h
  split at h
  · rename_i E
    refine ⟨E, ?_⟩
    rcases rc with rc | ⟨a, hh, o, rfl, _, r1, z⟩
    · cases rc <;> first | cases h | skip
      · exact ⟨_, .ty _, h⟩
      · exact ⟨_, .own _, h⟩
    · cases o <;> cases z <;> cases h
  · cases h
theorem Rc.excD {K : PySem.W.Frag} {H G : Hp} {v : V} {d : D} (e : Ex G H) (rc : Rc K H G v d) : (∀ C, d = .exc0 C → ∃ a, v = .ref a ∧ H a = some (exg a C none)) ∧
    ∀ C l, d = .exc C l → ∃ a dd fs, v = .ref a ∧ H a = some (exg a C (some dd)) ∧ H dd = some (.xd fs) ∧ RpF K G fs l := by
  rcases rc with rc | ⟨a, hh, o, rfl, _, r1, z⟩
  · refine ⟨fun C z => ?_, fun C l z => ?_⟩
    · subst z
      cases rc with | exc0 h => exact ⟨_, rfl, e _ _ h⟩
    · subst z
      cases rc with | exc h h2 r => exact ⟨_, _, _, rfl, e _ _ h, e _ _ h2, r⟩
  · refine ⟨fun C y => ?_, fun C l y => ?_⟩ <;> (subst y; cases o <;> cases z)
theorem b_isX {K : PySem.W.Frag} : FnB K (rIsX K) (gIsX (ikK K)) := fun H G xs ds z Q xx r hz k => by
  unfold gIsX at hz
  split at hz
  · rename_i C c
    obtain ⟨x, y, rfl, r1, r2⟩ := pr2 r
    cases e : ikK K C c with
    | none => rw [e] at hz; cases hz
    | some b =>
      rw [e] at hz
      cases hz
      obtain ⟨a, rfl, ha⟩ := (r1.excD xx).1 C rfl
      obtain ⟨E, cv, h1, h2⟩ := ik_get e r2
      exact ⟨a, C, none, y, cv, b, rfl, ha, .inl rfl, h1, E, h2, k _ H ⟨rfl, .bl _⟩⟩
  · rename_i C l c
    obtain ⟨x, y, rfl, r1, r2⟩ := pr2 r
    cases e : ikK K C c with
    | none => rw [e] at hz; cases hz
    | some b =>
      rw [e] at hz
      cases hz
      obtain ⟨a, dd, fs, rfl, ha, hb, _⟩ := (r1.excD xx).2 C l rfl
      obtain ⟨E, cv, h1, h2⟩ := ik_get e r2
      exact ⟨a, C, some dd, y, cv, b, rfl, ha, .inr ⟨dd, fs, rfl, hb⟩, h1, E, h2, k _ H ⟨rfl, .bl _⟩⟩
  · cases hz
/-! ### a field of an exception -/
/-- the class's objects have no attribute of this name but the own one -/
noncomputable def xfK (K : PySem.W.Frag) (C : Addr) (f : Str) : Bool := open Classical in decide (XfC K C ∧ PySem.W.findIn K (.ref C) f = some none)
def tFx (K : PySem.W.Frag) (f : Str) (te : TE) : TE := fun σ H Q => te σ H fun x H1 => ∃ (a C dd : Addr) (fs : List (Str × V)) (v : V), x = .ref a ∧ XfC K C ∧ PySem.W.findIn K (.ref C) f = some none ∧ H1 a = some (exg a C (some dd)) ∧ H1 dd = some (.xd fs) ∧ fs.lookup f = some v ∧ Q v H1
theorem pe_fx {X : Cx} {e : Expr} {te : TE} {pos : Pos} {n : Str} (he : PE X e te) (hb : attributeBase e n X.env (eval e X.env) = eval e X.env := by rfl) : PE X (.Attribute e n pos) (tFx X.K n te) := by
  refine ⟨fun pins s σ H Q I h => ?_⟩
  refine attr_of hb (thn (he.run pins s σ H _ I h) fun u s1 hh => ?_)
  obtain ⟨x, H1, I1, rx, a, C, dd, fs, v, ex, T, hno, ea, ed, l, q⟩ := hh
  subst ex
  obtain rfl : u = Value.ref a := rx
  obtain ⟨oe, od, J, hl⟩ := exg_inst I1 ea (.inr ⟨dd, fs, rfl, ed⟩)
  obtain ⟨o, mA, rfl, hl, hr⟩ := hl dd fs rfl ed
  obtain ⟨u, hu, ru⟩ := RelO.some_of (v := v) (o := mA n) (by rw [← l]; exact hr n)
  exact HandSPX.exc_get I1.kIn J T.ga T.gg T.exC (PySem.W.findObj_own T.hdC hno rfl (by rw [hl, hu])) (handed_of ru) ⟨v, H1, I1.tok _, ru, q⟩
def fxD (xk : Addr → Str → Bool) (f : Str) : D → Option D
  | .exc C l => if xk C f = true then l.lookup f else none
  | _ => none
def kFx1 (xk : Addr → Str → Bool) (f : Str) (Q : R → Rho → Prop) (r : R) (ρ : Rho) : Prop := lk ((con ρ r).bind (fxD xk f)) fun d => Q (.dat d) ρ
def wFx (xk : Addr → Str → Bool) (f : Str) (ta : TD) : TD := fun ρ Q => ta ρ (kFx1 xk f Q)
theorem d_fx {X : Cx} {b : Bas} {e : Expr} {ta : TD} {pos : Pos} {f : Str} (he : PD X b e ta) (hb : attributeBase e f X.env (eval e X.env) = eval e X.env := by rfl) : PD X b (.Attribute e f pos) (wFx (xfK X.K) f ta) := pe_weak (pe_fx he hb) fun σ H Q q => by
  obtain ⟨G, ρ, QD, w, q, k⟩ := q
  refine ⟨G, ρ, _, w, q, fun v H1 G1 r ρ1 w1 m1 q1 z => ?_⟩
  obtain ⟨y, e1, z⟩ := lk_get z
  cases e3 : con ρ1 r with
  | none => rw [e3] at e1; cases e1
  | some x =>
    rw [e3] at e1
    have e1' : fxD (xfK X.K) f x = some y := e1
    unfold fxD at e1'
    split at e1'
    · rename_i C l
      split at e1'
      · rename_i hx
        obtain ⟨a, dd, fs, rfl, h1, h2, h3⟩ := ((q1.rc w1 e3).excD w1.sub).2 C l rfl
        obtain ⟨u, h4, h5⟩ := h3.get e1'
        have hx : XfC X.K C ∧ PySem.W.findIn X.K (.ref C) f = some none := by unfold xfK at hx; simpa using hx
        exact ⟨a, C, dd, fs, u, rfl, hx.1, hx.2, h1, h2, h4, k u H1 G1 (.dat y) ρ1 w1 m1 h5 z⟩
      · cases e1'
    · cases e1'
theorem ik_mk {K : PySem.W.Frag} {C : Addr} {c : D} {r : Bool} (E : ExcC K C) (h : (match c with
  | .cls D => PySem.W.kitOne K (.ref C) (.ref D)
  | .ty n => PySem.W.kitOne K (.ref C) (.type n)
  | _ => none) = some r) : ikK K C c = some r := by
  unfold ikK
  rw [if_pos E]
  exact h
theorem ik_own {K : PySem.W.Frag} {C D : Addr} {r : Bool} (E : ExcC K C) (ok : ((PySem.W.clsIn K D).isSome && PySem.W.typeIn K (.ref D) == some (.type "type")) = true) (ne : C = D → r = true) (h : PySem.W.subIn K (.ref C) (.ref D) = some r) : ikK K C (.cls D) = some r := by
  refine ik_mk E ?_
  show PySem.W.kitOne K (.ref C) (.ref D) = some r
  unfold PySem.W.kitOne
  by_cases e : C = D
  · rw [if_pos (by rw [e]; simp), ne e]
  · rw [if_neg (by simpa using e)]
    unfold PySem.W.kitCls
    dsimp only
    rw [if_pos ok]
    exact h
theorem ik_ty {K : PySem.W.Frag} {C : Addr} {n : String} {r : Bool} (E : ExcC K C) (ok : PySem.W.kitMeta n = true) (h : PySem.W.subIn K (.ref C) (.type n) = some r) : ikK K C (.ty n) = some r := by
  refine ik_mk E ?_
  show PySem.W.kitOne K (.ref C) (.type n) = some r
  unfold PySem.W.kitOne
  rw [if_neg (by simp)]
  unfold PySem.W.kitCls
  dsimp only
  rw [if_pos ok]
  exact h
theorem xf_mk {K : PySem.W.Frag} {C : Addr} {f : Str} (T : XfC K C) (h : PySem.W.findIn K (.ref C) f = some none) : xfK K C f = true := by unfold xfK; simp only [decide_eq_true_eq]; exact ⟨T, h⟩
theorem excC_mk {K : PySem.W.Frag} {D : Addr} (hg : PySem.W.findIn K (.ref D) "__getattribute__" = some (some (.builtin "BaseException.__getattribute__"))) (hk : PySem.W.findIn K (.ref D) "__getattr__" = some none)
  (hs : PySem.W.subIn K (.ref D) (.type "BaseException") = some true) (hd : PySem.W.hasDictIn K D = true) (ha : PySem.W.findIn K (.ref D) "__class__" = some (some (.builtin "object.__class__")))
  (hn : PySem.W.specialIn K (.builtin "object.__class__") "__get__" = some (some (.builtin "getset_descriptor.__get__"))) (ht : PySem.W.takesIn K (.builtin "object.__class__") = some true) (hm : PySem.W.mroIn K D (.type "object") = some true) : ExcC K D := ⟨hg, hk, hs, hd, ha, hn, ht, hm⟩
theorem bt_ValueError : bootBuiltins "ValueError" = some (.type "ValueError") := by decide +kernel
section
variable {ρ : Rho} {Q : R → Rho → Prop} {DD : EndsD} {EE : XD} {ks : List Nat} {em : Addr → Addr → Option Bool} {sdB : XD → SD} {C : Addr} {x : Xc} {i j : Nat} {f : Str} {d : D} {l : List (Str × D)} {ik : Addr → D → Option Bool} {xk : Addr → Str → Bool} {ta : TD} {r : R}
theorem e_tryK : wTryK ks em EE C i j sdB DD ρ = sdB (wKeep ks em EE DD C i j) DD ρ := rfl
theorem k_keep : wKeep ks em EE DD C i j x ρ = lk (em x.C C) fun c => pickD c (keepD ks i j DD x ρ) (EE x ρ) := rfl
theorem k_keepD : keepD ks i j DD x ρ = (i ∉ ks ∧ j ∉ ks ∧ i ≠ j ∧ DD.nx ((ρ.set j (.dat (excD x))).set i .no)) := rfl
theorem exc_n : excD ⟨C, none⟩ = .exc0 C := rfl
theorem exc_s : excD ⟨C, some l⟩ = .exc C l := rfl
theorem is_x0 : gIsX ik [.exc0 C, d] = (ik C d).map fun r => .d (.bl r) := rfl
theorem is_x1 : gIsX ik [.exc C l, d] = (ik C d).map fun r => .d (.bl r) := rfl
theorem e_fx : wFx xk f ta ρ Q = ta ρ (kFx1 xk f Q) := rfl
theorem k_fx1 : kFx1 xk f Q r ρ = lk ((con ρ r).bind (fxD xk f)) fun d => Q (.dat d) ρ := rfl
theorem fx_d (h : xk C f = true) : fxD xk f (.exc C l) = l.lookup f := if_pos h
end
end DL

set_option Elab.async false
set_option maxRecDepth 100000
set_option maxHeartbeats 4000000
/-! DX13: l.index(x), l.count(x) over data of any depth; *e in tuples and lists. -/
namespace DL
open PySem PySem.Spec PyProof.Rows L2
/-! ### count at the model -/
/-! ### over data -/
def kLm3 (Q : R → Rho → Prop) (ρ : Rho) (z : Z) : Prop := Q z.r ρ
def kLm2 (g : D → List D → Option Z) (Q : R → Rho → Prop) (ρ : Rho) (rs : List R) (d1 : D) : Prop := lk ((conL ρ rs).bind (g d1)) (kLm3 Q ρ)
def kLm1 (g : D → List D → Option Z) (Q : R → Rho → Prop) (r1 : R) (rs : List R) (ρ : Rho) : Prop := lk (con ρ r1) (kLm2 g Q ρ rs)
def kLm0 (g : D → List D → Option Z) (tA : TAD) (Q : R → Rho → Prop) (r1 : R) (ρ : Rho) : Prop := isLst (con ρ r1) ∧ tA ρ (kLm1 g Q r1)
/-- a method of a list that tells a number -/
def wLm (g : D → List D → Option Z) (ta : TD) (tA : TAD) : TD := fun ρ Q => ta ρ (kLm0 g tA Q)
section
variable {X : Cx} {b : Bas} {o e : Expr} {es : List Expr} {ta : TD} {t : TAD} {apos cpos : Pos}
end
/-! ### stars -/
def kSt3 (ds : List D) (Q : List R → Rho → Prop) (rs : List R) (ρ : Rho) : Prop := Q (ds.map .dat ++ rs) ρ
def kSt2 (tA : TAD) (Q : List R → Rho → Prop) (ρ : Rho) (ds : List D) : Prop := tA ρ (kSt3 ds Q)
def kSt1 (tA : TAD) (Q : List R → Rho → Prop) (r : R) (ρ : Rho) : Prop := lk ((con ρ r).bind walkD) (kSt2 tA Q ρ)
/-- *e ahead of other items -/
def wStar (ta : TD) (tA : TAD) : TAD := fun ρ Q => ta ρ (kSt1 tA Q)
theorem RvA.bk {K : PySem.W.Frag} {b : Bas} {σ : L2.St} {J J' H G : Hp} {ρ : Rho} (h : ∀ a, J a = none → J' a = none) : ∀ {vs : List V} {rs : List R}, RvA K b σ J H G ρ vs rs → RvA K b σ J' H G ρ vs rs
  | _, _, .nil => .nil
  | _, _, .cons h1 h2 h3 => .cons (h1.back h) h2 (RvA.bk h h3)
section
variable {ρ : Rho} {Q : R → Rho → Prop} {QA : List R → Rho → Prop} {r : R} {rs : List R} {d : D} {ds : List D} {z : Z} {ta : TD} {tA : TAD} {g : D → List D → Option Z}
theorem e_lm : wLm g ta tA ρ Q = ta ρ (kLm0 g tA Q) := rfl
theorem k_lm0 : kLm0 g tA Q r ρ = (isLst (con ρ r) ∧ tA ρ (kLm1 g Q r)) := rfl
theorem k_lm1 : kLm1 g Q r rs ρ = lk (con ρ r) (kLm2 g Q ρ rs) := rfl
theorem k_lm2 : kLm2 g Q ρ rs d = lk ((conL ρ rs).bind (g d)) (kLm3 Q ρ) := rfl
theorem k_lm3 : kLm3 Q ρ z = Q z.r ρ := rfl
theorem e_star : wStar ta tA ρ QA = ta ρ (kSt1 tA QA) := rfl
theorem k_st1 : kSt1 tA QA r ρ = lk ((con ρ r).bind walkD) (kSt2 tA QA ρ) := rfl
theorem k_st2 : kSt2 tA QA ρ ds = tA ρ (kSt3 ds QA) := rfl
theorem k_st3 : kSt3 ds QA rs ρ = QA (ds.map .dat ++ rs) ρ := rfl
theorem frzs_dats {ks : List Nat} : ∀ {ds : List D} {rs : List R} {ρ : Rho}, frzs ks (ds.map .dat ++ rs) ρ = (frzs ks rs ρ).map fun p => (ds ++ p.1, p.2)
  | [], rs, ρ => by
    rw [List.map_nil, List.nil_append]
    cases frzs ks rs ρ <;> rfl
  | d :: ds, rs, ρ => by
    rw [List.map_cons, List.cons_append, frzs_cons, frz_d, Option.bind_some, k_fzs, frzs_dats]
    cases frzs ks rs ρ <;> rfl
theorem frzs_datL {ks : List Nat} {ds : List D} {ρ : Rho} : frzs ks (ds.map .dat) ρ = some (ds, ρ) := by
  have := frzs_dats (ks := ks) (ds := ds) (rs := []) (ρ := ρ)
  rw [List.append_nil] at this
  rw [this, frzs_nil, Option.map_some, List.append_nil]
end
end DL

set_option Elab.async false
set_option maxRecDepth 100000
set_option maxHeartbeats 4000000
/-! DX14: exceptions as values: made and handed on; own __init__ of two fields. -/
namespace DL
open PySem PySem.Spec PyProof.Rows L2
section
variable {X : Cx} {e : Expr}
/-- an expression that makes an exception, as a value -/
theorem pe_mkx {t : L2.St → Hp → XK → Prop} (he : PMk X e t) : PE X e (fun σ H Q => t σ H fun cls d H1 => ∃ C, cls = .ref C ∧ ∀ a, H1 a = none → Q (.ref a) (upd H1 a (exg a C d))) := by
  refine ⟨fun pins s σ H Q I h => ?_⟩
  refine wpAny_mono (he pins s σ H _ I h) (fun u s1 hu => ?_) fun _ _ x => x
  obtain ⟨a, oe, vs, sI, H', cls, d, rfl, J, k, hne, ha, hz, hd, h1, na, os, ag, r, C, rfl, q⟩ := hu
  have Y := J.laidN (h' := s1.heap) (t' := s1.toks) (o := exg a C d) k hne na (exg_ok ha hz hd)
  exact ⟨.ref a, upd H' a (exg a C d), ⟨Y.ok, os.trans J.os, ag, Y.base, Y.loc, Y.cell, Y.free, Y.freeC, Y.pin, Y.hok, Y.len⟩, rfl, q a na⟩
end
/-! ### over data -/
def wNew0 (C : Addr) : TD := fun ρ Q => Q (.dat (.exc0 C)) ρ
section
variable {X : Cx} {b : Bas} {ks : List Nat} {C : Addr} {x m f f1 f2 : Str} {j : Nat} {p p2 pos : Pos} {e e2 : Expr} {t : TAD}
theorem d_new0 (c : ErrC X.K C) (gC : X.mg x = some (.ref C)) (hg : Gl X x) (hdb : (x == ("__debug__" : Str)) = false := by decide) : PD X b (.Call (.Name x p) [.Constant (.str m) j p2] [] pos) (wNew0 C) :=
  pe_weak (pe_mkx (pmk_own F.excBase_ValueError c.q gC c.k (raises_own c.e c.t) hg hdb)) fun σ H Q q => by
    obtain ⟨G, ρ, QD, w, q, k⟩ := q
    refine ⟨C, rfl, fun a na => ?_⟩
    exact k (.ref a) _ (upd G a (exg a C none)) (.dat (.exc0 C)) ρ (w.newD na) (w.newFD na) (.exc0 upd_same) q
end
/-- what an own __init__ of two fields keeps -/
def spEx2 (C : Addr) (f1 f2 : Str) (ok : V → V → Prop) : Sp := fun xs H Q _ => ∃ (a : Addr) (y1 y2 : V), xs = [.ref a, y1, y2] ∧ ok y1 y2 ∧ H a = some (exo a C none) ∧ ∀ dx, H dx = none → dx ≠ a → Q .non (upd (upd (upd H dx (exd dx [(f1, y1)])) a (exo a C (some dx))) dx (exd dx [(f2, y2), (f1, y1)]))
structure ErrF2 (P : Program) (w : World) (K : PySem.W.Frag) (mg : Str → Option Value) (base : Heap) (x : Str) (C : Addr) (f1 f2 : Str) (ok : V → V → Prop) : Prop where
  T : OexC K C
  gC : mg x = some (.ref C)
  ex : ∃ (fI : Addr) (fd : FuncData) (ps : List Str), PySem.W.findIn K (.ref C) "__init__" = some (some (.ref fI)) ∧ PySem.W.typeIn K (.ref fI) = some (.type "function") ∧ FnOk P w K mg base CX0 1 fI fd ps (spEx2 C f1 f2 ok) ∧ Binds K fd ps []
def okA : D → Prop := fun _ => True
def okAV (_ : V) : Prop := True
theorem okA_v {K : PySem.W.Frag} {G : Hp} {v : V} {d : D} (_ : Rp K G v d) (_ : okA d) : okAV v := True.intro
def kNf2 (C : Addr) (f : Str) (ok : D → Prop) (Q : R → Rho → Prop) (p : List D × Rho) : Prop := match p.1 with
  | [d] => ok d ∧ Q (.dat (.exc C [(f, d)])) p.2
  | _ => False
def kNf1 (ks : List Nat) (C : Addr) (f : Str) (ok : D → Prop) (Q : R → Rho → Prop) (rs : List R) (ρ : Rho) : Prop := lk (frzs ks rs ρ) (kNf2 C f ok Q)
/-- an exception with one field -/
def wNewF (ks : List Nat) (C : Addr) (f : Str) (ok : D → Prop) (t : TAD) : TD := fun ρ Q => t ρ (kNf1 ks C f ok Q)
def kNg2 (C : Addr) (f1 f2 : Str) (ok : D → Prop) (Q : R → Rho → Prop) (p : List D × Rho) : Prop := match p.1 with
  | [d1, d2] => ok d1 ∧ ok d2 ∧ Q (.dat (.exc C [(f2, d2), (f1, d1)])) p.2
  | _ => False
def kNg1 (ks : List Nat) (C : Addr) (f1 f2 : Str) (ok : D → Prop) (Q : R → Rho → Prop) (rs : List R) (ρ : Rho) : Prop := lk (frzs ks rs ρ) (kNg2 C f1 f2 ok Q)
def wNewG (ks : List Nat) (C : Addr) (f1 f2 : Str) (ok : D → Prop) (t : TAD) : TD := fun ρ Q => t ρ (kNg1 ks C f1 f2 ok Q)
theorem heap_new {H1 : Hp} {a C dx : Addr} {fs gs : List (Str × V)} (na : H1 a = none) : upd (del (upd (upd (upd H1 a (exo a C none)) dx (exd dx gs)) a (exo a C (some dx))) a) dx (.xd fs) = upd H1 dx (.xd fs) := by
  funext c
  by_cases h1 : c = dx
  · rw [h1, upd_same, upd_same]
  · rw [upd_ne h1, upd_ne h1]
    by_cases h2 : c = a
    · rw [h2, del_same, na]
    · rw [del_ne h2, upd_ne h2, upd_ne h1, upd_ne h2]
theorem heap_new2 {H1 : Hp} {a C dx : Addr} {fs gs hs : List (Str × V)} (na : H1 a = none) (ne : dx ≠ a) : upd (del (upd (upd (upd (upd H1 a (exo a C none)) dx (exd dx gs)) a (exo a C (some dx))) dx (exd dx hs)) a) dx (.xd fs) = upd H1 dx (.xd fs) := by
  funext c
  by_cases h1 : c = dx
  · rw [h1, upd_same, upd_same]
  · rw [upd_ne h1, upd_ne h1]
    by_cases h2 : c = a
    · rw [h2, del_same, na]
    · rw [del_ne h2, upd_ne h1, upd_ne h2, upd_ne h1, upd_ne h2]
section
variable {X : Cx} {b : Bas} {ks : List Nat} {C : Addr} {x f f1 f2 : Str} {p pos : Pos} {e e2 : Expr} {t : TAD} {ok : D → Prop} {okv : V → Prop}
theorem d_newF (hk : b.kp.map (·.1) = ks) (c : ErrF X.prog X.w X.K X.mg X.base x C f okv) (room : Room 2 X.A) (hok : ∀ {G : Hp} {v : V} {d : D}, Rp X.K G v d → ok d → okv v) (hg : Gl X x) (args : PAD X b [e] t)
    (hd : (x == ("__debug__" : Str)) = false := by decide) (hs : starEach [e] X.env = (false, eval e X.env) :: starEach [] X.env := by rfl) (hp : (backTo pos (starEach [] X.env)).any (·.1) = false := by rfl) :
    PD X b (.Call (.Name x p) [e] [] pos) (wNewF ks C f ok t) := by
  obtain ⟨fI, fd, ps, iC, tI, F1, bind⟩ := c.ex
  refine pe_weak (pe_mkx (pmk_oex c.T iC tI F1 room bind .nil pass0 hg c.gC args hd hs hp)) fun σ H Q q => ?_
  obtain ⟨G, ρ, QD, w, q, k⟩ := q
  refine ⟨G, ρ, _, w, q, fun vs H1 G1 rs ρ1 w1 m1 q1 z => ?_⟩
  obtain ⟨p, e1, z⟩ := lk_get z
  obtain ⟨ds, ρ2⟩ := p
  obtain ⟨G2, w2, m2, r2, x2⟩ := Rel.frzs hk w1 m1 q1 e1
  unfold kNf2 at z
  dsimp only at z
  split at z
  · rename_i d
    obtain ⟨o, z⟩ := z
    cases r2 with
    | @cons v vs' _ _ r r' =>
      cases r'
      refine ⟨by show 1 ≤ 1000; omega, fun a na => ⟨a, v, rfl, hok r o, upd_same, fun dx ndx ne => ?_⟩⟩
      rw [upd_ne ne] at ndx
      refine ⟨rfl, dx, [(f, v)], upd_same, by rw [upd_ne ne, upd_same], ndx, ?_⟩
      rw [heap_new na]
      refine ⟨C, rfl, fun a2 na2 => ?_⟩
      have w3 := w2.newD (h := .xd [(f, v)]) ndx
      have m3 := m2.trans (w2.newFD (h := .xd [(f, v)]) ndx)
      have hne : dx ≠ a2 := fun z => by rw [← z, upd_same] at na2; cases na2
      refine k (.ref a2) _ (upd (upd G2 dx (.xd [(f, v)])) a2 (exg a2 C (some dx))) (.dat (.exc C [(f, d)])) ρ2 (w3.newD na2) (m3.trans (w3.newFD na2)) ?_ z
      exact .exc upd_same (by rw [upd_ne hne, upd_same]) (.cons ((r.up (Ex.put (w2.sub.gone ndx))).up (Ex.put (w3.sub.gone na2))) .nil)
  · exact z.elim
theorem d_newG (hk : b.kp.map (·.1) = ks) (c : ErrF2 X.prog X.w X.K X.mg X.base x C f1 f2 fun y1 y2 => okv y1 ∧ okv y2) (room : Room 2 X.A) (hok : ∀ {G : Hp} {v : V} {d : D}, Rp X.K G v d → ok d → okv v) (hg : Gl X x) (args : PAD X b [e, e2] t)
    (hd : (x == ("__debug__" : Str)) = false := by decide) (hs : starEach [e, e2] X.env = (false, eval e X.env) :: starEach [e2] X.env := by rfl) (hp : (backTo pos (starEach [e2] X.env)).any (·.1) = false := by rfl) :
    PD X b (.Call (.Name x p) [e, e2] [] pos) (wNewG ks C f1 f2 ok t) := by
  obtain ⟨fI, fd, ps, iC, tI, F1, bind⟩ := c.ex
  refine pe_weak (pe_mkx (pmk_oex c.T iC tI F1 room bind .nil pass0 hg c.gC args hd hs hp)) fun σ H Q q => ?_
  obtain ⟨G, ρ, QD, w, q, k⟩ := q
  refine ⟨G, ρ, _, w, q, fun vs H1 G1 rs ρ1 w1 m1 q1 z => ?_⟩
  obtain ⟨p, e1, z⟩ := lk_get z
  obtain ⟨ds, ρ2⟩ := p
  obtain ⟨G2, w2, m2, r2, x2⟩ := Rel.frzs hk w1 m1 q1 e1
  unfold kNg2 at z
  dsimp only at z
  split at z
  · rename_i d1 d2
    obtain ⟨o1, o2, z⟩ := z
    cases r2 with
    | @cons v1 vs' _ _ r1 r' =>
      cases r' with
      | @cons v2 vs'' _ _ r2 r' =>
        cases r'
        refine ⟨by show 2 ≤ 1000; omega, fun a na => ⟨a, v1, v2, rfl, ⟨hok r1 o1, hok r2 o2⟩, upd_same, fun dx ndx ne => ?_⟩⟩
        rw [upd_ne ne] at ndx
        refine ⟨rfl, dx, [(f2, v2), (f1, v1)], by rw [upd_ne (Ne.symm ne), upd_same], upd_same, ndx, ?_⟩
        rw [heap_new2 na ne]
        refine ⟨C, rfl, fun a2 na2 => ?_⟩
        have w3 := w2.newD (h := .xd [(f2, v2), (f1, v1)]) ndx
        have m3 := m2.trans (w2.newFD (h := .xd [(f2, v2), (f1, v1)]) ndx)
        have hne : dx ≠ a2 := fun z => by rw [← z, upd_same] at na2; cases na2
        have up : ∀ {v d}, Rp X.K G2 v d → Rp X.K (upd (upd G2 dx (.xd [(f2, v2), (f1, v1)])) a2 (exg a2 C (some dx))) v d := fun r => (r.up (Ex.put (w2.sub.gone ndx))).up (Ex.put (w3.sub.gone na2))
        refine k (.ref a2) _ (upd (upd G2 dx (.xd [(f2, v2), (f1, v1)])) a2 (exg a2 C (some dx))) (.dat (.exc C [(f2, d2), (f1, d1)])) ρ2 (w3.newD na2) (m3.trans (w3.newFD na2)) ?_ z
        exact .exc upd_same (by rw [upd_ne hne, upd_same]) (.cons (up r2) (.cons (up r1) .nil))
  · exact z.elim
end
/-- the end of an __init__ of three statements: the base class' one, then two fields -/
theorem exEnd2 {K : PySem.W.Frag} {C a : Addr} {f1 f2 : Str} {y1 y2 : V} {H : Hp} {Q : VK} {T : TE} {σ : L2.St} (TC : OexC K C) (no1 : PySem.W.findIn K (.ref C) f1 = some none) (no2 : PySem.W.findIn K (.ref C) f2 = some none) (h0 : σ[0]? = some (some (.ref a))) (h1 : σ[1]? = some (some y1)) (h2 : σ[2]? = some (some y2)) (ha : H a = some (exo a C none)) (hT : ∀ Q' : VK, (∀ m, Q' (.str m) H) → T σ H Q')
    (q : ∀ dx, H dx = none → dx ≠ a → Q .non (upd (upd (upd H dx (exd dx [(f1, y1)])) a (exo a C (some dx))) dx (exd dx [(f2, y2), (f1, y1)]))) : (tSeq (tDrop (tVeI K (tCons (tVar 0) (tCons T tNil)))) (tSeq (tOst K f1 (tVar 0) (tVar 1)) (tOst K f2 (tVar 0) (tVar 2)))) { nx := fun _ H' => Q .non H', rt := Q } σ H := by
  refine ⟨.ref a, h0, hT _ fun m => ?_⟩
  refine ⟨a, C, [.str m], rfl, by simp, TC, ha, ?_⟩
  refine ⟨y1, h1, .ref a, h0, a, C, rfl, TC, no1, .inl ⟨ha, fun dx n ne => ?_⟩⟩
  exact ⟨y2, h2, .ref a, h0, a, C, rfl, TC, no2, .inr ⟨dx, [(f1, y1)], upd_same, by rw [upd_ne ne, upd_same], by simp, q dx n ne⟩⟩
theorem veText2 {σ : L2.St} {H : Hp} {Q : VK} {m1 m2 : Str} {i k : Int} (h1 : σ[1]? = some (some (.int i))) (h2 : σ[2]? = some (some (.int k))) (hi : i.natAbs.log2 < 1920) (hk : k.natAbs.log2 < 1920) (hm : m1.length ≤ 1000) (hm2 : m2.length ≤ 1000) (hQ : ∀ t, Q (.str t) H) : tJs [tC (.str m1), tFmt (tVar 1), tC (.str m2), tFmt (tVar 2)] Str.empty σ H fun out H1 => Q (.str out) H1 := by
  have ln := int_text_len_1921 hi
  have ln2 := int_text_len_1921 hk
  have e0 : (Str.empty ++ m1).length = m1.length := by
    rw [Str.length_append]
    show 0 + _ = _
    omega
  have l1 : ((toString i : String) : Str).length ≤ 1921 := ln
  have l2 : ((toString k : String) : Str).length ≤ 1921 := ln2
  refine ⟨m1, rfl, by rw [e0, sizeLine_eq]; omega, .int i, h1, .inr ⟨i, rfl, hi, toString i, rfl, ?_, m2, rfl, ?_, .int k, h2, .inr ⟨k, rfl, hk, toString k, rfl, ?_, hQ _⟩⟩⟩
  · rw [Str.length_append, e0, sizeLine_eq]; omega
  · rw [Str.length_append, Str.length_append, e0, sizeLine_eq]; omega
  · rw [Str.length_append, Str.length_append, Str.length_append, e0, sizeLine_eq]; omega
section
variable {ρ : Rho} {Q : R → Rho → Prop} {ks : List Nat} {C : Addr} {f f1 f2 : Str} {ok : D → Prop} {t : TAD} {rs : List R} {d d1 d2 : D}
theorem e_new0 : wNew0 C ρ Q = Q (.dat (.exc0 C)) ρ := rfl
theorem e_newF : wNewF ks C f ok t ρ Q = t ρ (kNf1 ks C f ok Q) := rfl
theorem k_nf1 : kNf1 ks C f ok Q rs ρ = lk (frzs ks rs ρ) (kNf2 C f ok Q) := rfl
theorem k_nf2 : kNf2 C f ok Q ([d], ρ) = (ok d ∧ Q (.dat (.exc C [(f, d)])) ρ) := rfl
theorem e_newG : wNewG ks C f1 f2 ok t ρ Q = t ρ (kNg1 ks C f1 f2 ok Q) := rfl
theorem k_ng1 : kNg1 ks C f1 f2 ok Q rs ρ = lk (frzs ks rs ρ) (kNg2 C f1 f2 ok Q) := rfl
theorem k_ng2 : kNg2 C f1 f2 ok Q ([d1, d2], ρ) = (ok d1 ∧ ok d2 ∧ Q (.dat (.exc C [(f2, d2), (f1, d1)])) ρ) := rfl
end
end DL

set_option Elab.async false
set_option maxRecDepth 100000
set_option maxHeartbeats 4000000
/-! S37a: steps: comprehensions, plain facts. -/
namespace DL
open PySem PySem.Spec PyProof.Rows L2
local macro_rules | `(tactic| walk_at "dl") => `(tactic| simp (config := {decide := false}) only [e_eqO, k_eo0, k_eo1, k_eo2, k_eo3, e_cnt, k_cn0, k_cn1, k_cn2, k_cn3, isLst_l, cntD_i, e_fld, k_fl1, k_fl2, k_fl3, insD_i, e_setF, k_sf1, k_sf2, q_sf, e_make, k_mk1, k_mk2, k_mk3, e_never, e_callRR, k_rr1, k_rr2, k_rr3, k_rr4, e_itEA, k_ea1, k_ea2, e_itT2, k_i1, k_i2, e_m1, k_m1, k_m1b, k_m2, k_m3, k_m4, e_itZ, k_z1, e_scLen, k_sc, k_scQ, compT_nil, compT_cons, k_t1, k_t2, k_t2b, k_t3, e_chain, k_ch, k_ch0, k_ch1, k_ch2, k_ch3, k_ch4, k_ch5, k_ch6, rev_l, rev_f, rev_t, clear_l, lista_s, max_2, min_2, inA_s, ix_s, mulA_si, seqE_nx, seqE_rt, seqE_bk, seqE_ct, loopE_nx, loopE_rt, loopE_bk, loopE_ct, e_seq, e_next, e_break, e_cont, e_retN, e_var, q_var_d, q_var_o, e_c, con_d, con_o, con_b, conS_d, conS_o, own_l, own_d, own_i, z_d, z_n, z_t, z_w, sl_d, sl_o, frz_d, frz_o, frz_b, q_frz_d, q_frz_o, frzs_nil, frzs_cons, k_fzs, k_fz, thin_d, thin_o, thin_b, k_th, thins_nil, thins_cons, k_ths, k_ts, setR_nil, setR_cons, k_e, e_op, k_op1, k_op2, k_op3, k_op4, e_un, k_un1, k_un2, e_nil, e_cons, k_co1, k_co2, conL_nil, conL_cons, k_cl, k_cl2, e_b, k_b1, k_b2, e_tup, k_tup1, k_tup2, e_lst, k_lst1, k_lst2, e_dct0, k_ret, e_call, k_ca1, k_ca2, k_retR, e_callR, k_cr1, k_cr2, k_cr3, e_tr, k_tr1, k_tr2, k_tr3, e_bl, k_bl, e_and, k_and, e_or, k_or, e_not, k_not, e_if, k_if, e_ifS, k_ifS, e_notV, k_nv1, k_nv2, e_andV, k_av1, k_av2, e_orV, k_ov1, k_ov2, bD_bl, e_sl, k_sl1, k_sl2, k_sl3, k_sl4, e_part, k_pt1, k_pt2, e_noP, e_dget, k_ge1, k_ge1b, k_ge2, k_ge3, k_ge4, dctD_d, keyD_i, keyD_s, e_mut, q_mu0, k_mu1, k_mu2, q_mu3, k_mu4, e_put, k_pu1, k_pu2, k_pu3, k_pu4, q_pu4, k_pu5, e_aug, q_au0, k_au1, k_au2, k_au3, e_asg, k_as1, k_as2, e_par, k_pa1, k_pa2, e_unp, k_up1, k_up2, e_hName, e_hNil, e_hCons, k_hc, e_hTup, e_hWt, e_drop, k_dr, e_ret, k_rt_d, k_rt_o, k_rt_b, q_out_o, q_out_d, forL_nil, forL_cons, k_fo2, e_for, k_fo1, k_wh, e_itS, k_it1, k_it2, k_it3, walk_l, walk_f, walk_t, e_itR1, k_r11, k_r12, e_itR2, k_r21, k_r22, e_itE, k_en1, k_en2, k_en3, list_l, list_f, e_lc, k_lc, k_lcQ, compL_nil, compL_cons, k_c1, k_c2, k_c3, k_c4, e_yes, wip_nil, wip_cons, unw_nil, unw_cons, g_int, f_add, f_sub, f_mul, f_div, f_mod, f_pow, f_lt, f_le, f_gt, f_ge, add_i, add_s, add_l, add_t, mul_i, mul_l, mul_t, neg_i, ix_l, ix_t, sl_l, sl_f, sl_t, len_l, len_f, len_t, len_s, abs_i, int_i, lof_l, lof_f, lof_t, tof_l, tof_f, tof_t, dof_t, app_l, ext_t, ext_l, tru_b, tru_i, tru_l, tru_t, tru_n, augN, subN, is_bl, is_non, ixN4_0, ixN4_1, ixN4_2, ixN4_3, lk_some, lk_ite, lk_map, lk_bind, ixOf, endsF_nx, endsF_dat, endsF_own, atI_0, atI_1, atI_2, atI_3, eqA_l0, eqA_tup0, eqA_int, eqA_non, bne_f, bne_t, sizeLine_eq,
  List.cons_append, List.nil_append, List.getElem?_cons_zero, List.getElem?_cons_succ, List.set_cons_zero, List.set_cons_succ, List.length_cons, List.length_nil, List.replicate, List.take_succ_cons, List.take_zero, List.not_mem_nil, List.mem_cons, List.map_cons, List.map_nil, if_false, if_true, Option.map_some, Option.bind_some, Option.getD_some, Nat.reduceAdd, Nat.reduceSub, Nat.reduceLeDiff, Nat.reduceEqDiff, Nat.succ_ne_zero, Nat.zero_ne_one, Nat.one_ne_zero, List.isEmpty_nil, List.isEmpty_cons, List.length_map, List.isEmpty_map, beq_iff_eq, Bool.not_eq_true, reduceCtorEq, or_false, or_true, false_or, true_or, and_true, true_and, List.cons.injEq, Option.some.injEq, Sl.own.injEq, Own.lst.injEq, exists_eq', not_false_eq_true, forall_const, forall_eq, forall_eq_or_imp, decide_eq_true_eq, Bool.not_true, Bool.not_false, Bool.false_eq_true, ite_self])
/-! ### comprehensions, the state known -/
theorem at_filt0 {α : Type} {P : α → Prop} {i : Nat} {ks : List Nat} {tt : TTD} {te : TD} {g f : α → D} {pr : α → Bool} {ρ : Rho}
    (hp : ∀ (a : α) (Q : Bool → Rho → Prop), P a → Q (pr a) (ρ.set i (.dat (g a))) → tt (ρ.set i (.dat (g a))) Q)
    (ht : ∀ (a : α) (Q : R → Rho → Prop), P a → Q (.dat (f a)) (ρ.set i (.dat (g a))) → te (ρ.set i (.dat (g a))) Q)
    (hi : ρ[i]? = some .no) {QI : List D → Rho → Prop} (hik : i ∉ ks) : ∀ (xs : List α) (acc : List D), (∀ a ∈ xs, P a) → acc.length + xs.length ≤ 100000 → QI (acc ++ (xs.filter pr).map f) ρ →
    compL ks (hName ks i) tt te [i] (xs.map g) acc ρ QI
  | [], acc, _, _, q => by
    rw [List.filter_nil, List.map_nil, List.append_nil] at q
    exact q
  | a :: xs, acc, hP, h, q => by
    have ha := hP a List.mem_cons_self
    have hx : ∀ b ∈ xs, P b := fun b hb => hP b (List.mem_cons_of_mem _ hb)
    rw [List.length_cons] at h
    rw [List.filter_cons] at q
    rw [List.map_cons, compL_cons, e_hName, if_neg hik]
    walk_at "dl"
    refine hp a _ ha ?_
    walk_at "dl"
    cases hc : pr a with
    | true =>
      rw [hc, if_pos rfl] at q
      rw [if_pos rfl]
      refine ht a _ ha ?_
      walk_at "dl"
      refine ⟨by omega, ?_⟩
      rw [set1_back hi]
      refine at_filt0 hp ht hi hik xs _ hx (by rw [List.length_append, List.length_singleton]; omega) ?_
      rw [List.append_assoc]
      exact q
    | false =>
      rw [hc, if_neg (by decide)] at q
      rw [if_neg (by decide)]
      rw [set1_back hi]
      exact at_filt0 hp ht hi hik xs acc hx (by omega) q
theorem at_comp {α : Type} {P : α → Prop} {i : Nat} {ks : List Nat} {te : TD} {g f : α → D} {ρ : Rho}
    (ht : ∀ (a : α) (Q : R → Rho → Prop), P a → Q (.dat (f a)) (ρ.set i (.dat (g a))) → te (ρ.set i (.dat (g a))) Q)
    (hi : ρ[i]? = some .no) {QI : List D → Rho → Prop} (xs : List α) (acc : List D) (hP : ∀ a ∈ xs, P a) (hl : acc.length + xs.length ≤ 100000) (q : QI (acc ++ xs.map f) ρ) (hik : i ∉ ks := by decide) :
    compL ks (hName ks i) wYes te [i] (xs.map g) acc ρ QI :=
  at_filt0 (pr := fun _ => true) (fun a Q _ q => q) ht hi hik xs acc hP hl (by rw [List.filter_eq_self.mpr (fun _ _ => rfl)]; exact q)
/-! ### lists without zeros at the end -/
/-! ### steps -/
end DL

set_option Elab.async false
set_option maxRecDepth 100000
set_option maxHeartbeats 4000000
/-! S37b: steps, by the program. -/
namespace DL
open PySem PySem.Spec PyProof.Rows L2
local macro_rules | `(tactic| walk_at "dl") => `(tactic| simp (config := {decide := false}) only [e_eqO, k_eo0, k_eo1, k_eo2, k_eo3, e_cnt, k_cn0, k_cn1, k_cn2, k_cn3, isLst_l, cntD_i, e_fld, k_fl1, k_fl2, k_fl3, insD_i, e_setF, k_sf1, k_sf2, q_sf, e_make, k_mk1, k_mk2, k_mk3, e_never, e_callRR, k_rr1, k_rr2, k_rr3, k_rr4, e_itEA, k_ea1, k_ea2, e_itT2, k_i1, k_i2, e_m1, k_m1, k_m1b, k_m2, k_m3, k_m4, e_itZ, k_z1, e_scLen, k_sc, k_scQ, compT_nil, compT_cons, k_t1, k_t2, k_t2b, k_t3, e_chain, k_ch, k_ch0, k_ch1, k_ch2, k_ch3, k_ch4, k_ch5, k_ch6, rev_l, rev_f, rev_t, clear_l, lista_s, max_2, min_2, inA_s, ix_s, mulA_si, seqE_nx, seqE_rt, seqE_bk, seqE_ct, loopE_nx, loopE_rt, loopE_bk, loopE_ct, e_seq, e_next, e_break, e_cont, e_retN, e_var, q_var_d, q_var_o, e_c, con_d, con_o, con_b, conS_d, conS_o, own_l, own_d, own_i, z_d, z_n, z_t, z_w, sl_d, sl_o, frz_d, frz_o, frz_b, q_frz_d, q_frz_o, frzs_nil, frzs_cons, k_fzs, k_fz, thin_d, thin_o, thin_b, k_th, thins_nil, thins_cons, k_ths, k_ts, setR_nil, setR_cons, k_e, e_op, k_op1, k_op2, k_op3, k_op4, e_un, k_un1, k_un2, e_nil, e_cons, k_co1, k_co2, conL_nil, conL_cons, k_cl, k_cl2, e_b, k_b1, k_b2, e_tup, k_tup1, k_tup2, e_lst, k_lst1, k_lst2, e_dct0, k_ret, e_call, k_ca1, k_ca2, k_retR, e_callR, k_cr1, k_cr2, k_cr3, e_tr, k_tr1, k_tr2, k_tr3, e_bl, k_bl, e_and, k_and, e_or, k_or, e_not, k_not, e_if, k_if, e_ifS, k_ifS, e_notV, k_nv1, k_nv2, e_andV, k_av1, k_av2, e_orV, k_ov1, k_ov2, bD_bl, e_sl, k_sl1, k_sl2, k_sl3, k_sl4, e_part, k_pt1, k_pt2, e_noP, e_dget, k_ge1, k_ge1b, k_ge2, k_ge3, k_ge4, dctD_d, keyD_i, keyD_s, e_mut, q_mu0, k_mu1, k_mu2, q_mu3, k_mu4, e_put, k_pu1, k_pu2, k_pu3, k_pu4, q_pu4, k_pu5, e_aug, q_au0, k_au1, k_au2, k_au3, e_asg, k_as1, k_as2, e_par, k_pa1, k_pa2, e_unp, k_up1, k_up2, e_hName, e_hNil, e_hCons, k_hc, e_hTup, e_hWt, e_drop, k_dr, e_ret, k_rt_d, k_rt_o, k_rt_b, q_out_o, q_out_d, forL_nil, forL_cons, k_fo2, e_for, k_fo1, k_wh, e_itS, k_it1, k_it2, k_it3, walk_l, walk_f, walk_t, e_itR1, k_r11, k_r12, e_itR2, k_r21, k_r22, e_itE, k_en1, k_en2, k_en3, list_l, list_f, e_lc, k_lc, k_lcQ, compL_nil, compL_cons, k_c1, k_c2, k_c3, k_c4, e_yes, wip_nil, wip_cons, unw_nil, unw_cons, g_int, f_add, f_sub, f_mul, f_div, f_mod, f_pow, f_lt, f_le, f_gt, f_ge, add_i, add_s, add_l, add_t, mul_i, mul_l, mul_t, neg_i, ix_l, ix_t, sl_l, sl_f, sl_t, len_l, len_f, len_t, len_s, abs_i, int_i, lof_l, lof_f, lof_t, tof_l, tof_f, tof_t, dof_t, app_l, ext_t, ext_l, tru_b, tru_i, tru_l, tru_t, tru_n, augN, subN, is_bl, is_non, ixN4_0, ixN4_1, ixN4_2, ixN4_3, lk_some, lk_ite, lk_map, lk_bind, ixOf, endsF_nx, endsF_dat, endsF_own, atI_0, atI_1, atI_2, atI_3, eqA_l0, eqA_tup0, eqA_int, eqA_non, bne_f, bne_t, sizeLine_eq,
  List.cons_append, List.nil_append, List.getElem?_cons_zero, List.getElem?_cons_succ, List.set_cons_zero, List.set_cons_succ, List.length_cons, List.length_nil, List.replicate, List.take_succ_cons, List.take_zero, List.not_mem_nil, List.mem_cons, List.map_cons, List.map_nil, if_false, if_true, Option.map_some, Option.bind_some, Option.getD_some, Nat.reduceAdd, Nat.reduceSub, Nat.reduceLeDiff, Nat.reduceEqDiff, Nat.succ_ne_zero, Nat.zero_ne_one, Nat.one_ne_zero, List.isEmpty_nil, List.isEmpty_cons, List.length_map, List.isEmpty_map, beq_iff_eq, Bool.not_eq_true, reduceCtorEq, or_false, or_true, false_or, true_or, and_true, true_and, List.cons.injEq, Option.some.injEq, Sl.own.injEq, Own.lst.injEq, exists_eq', not_false_eq_true, forall_const, forall_eq, forall_eq_or_imp, decide_eq_true_eq, Bool.not_true, Bool.not_false, Bool.false_eq_true, ite_self])
/-! ### numbers of steps -/
end DL

set_option Elab.async false
set_option maxRecDepth 100000
set_option maxHeartbeats 4000000
/-! S37c: steps, by the program. -/
namespace DL
open PySem PySem.Spec PyProof.Rows L2
local macro_rules | `(tactic| walk_at "dl") => `(tactic| simp (config := {decide := false}) only [e_eqO, k_eo0, k_eo1, k_eo2, k_eo3, e_cnt, k_cn0, k_cn1, k_cn2, k_cn3, isLst_l, cntD_i, e_fld, k_fl1, k_fl2, k_fl3, insD_i, e_setF, k_sf1, k_sf2, q_sf, e_make, k_mk1, k_mk2, k_mk3, e_never, e_callRR, k_rr1, k_rr2, k_rr3, k_rr4, e_itEA, k_ea1, k_ea2, e_itT2, k_i1, k_i2, e_m1, k_m1, k_m1b, k_m2, k_m3, k_m4, e_itZ, k_z1, e_scLen, k_sc, k_scQ, compT_nil, compT_cons, k_t1, k_t2, k_t2b, k_t3, e_chain, k_ch, k_ch0, k_ch1, k_ch2, k_ch3, k_ch4, k_ch5, k_ch6, rev_l, rev_f, rev_t, clear_l, lista_s, max_2, min_2, inA_s, ix_s, mulA_si, seqE_nx, seqE_rt, seqE_bk, seqE_ct, loopE_nx, loopE_rt, loopE_bk, loopE_ct, e_seq, e_next, e_break, e_cont, e_retN, e_var, q_var_d, q_var_o, e_c, con_d, con_o, con_b, conS_d, conS_o, own_l, own_d, own_i, z_d, z_n, z_t, z_w, sl_d, sl_o, frz_d, frz_o, frz_b, q_frz_d, q_frz_o, frzs_nil, frzs_cons, k_fzs, k_fz, thin_d, thin_o, thin_b, k_th, thins_nil, thins_cons, k_ths, k_ts, setR_nil, setR_cons, k_e, e_op, k_op1, k_op2, k_op3, k_op4, e_un, k_un1, k_un2, e_nil, e_cons, k_co1, k_co2, conL_nil, conL_cons, k_cl, k_cl2, e_b, k_b1, k_b2, e_tup, k_tup1, k_tup2, e_lst, k_lst1, k_lst2, e_dct0, k_ret, e_call, k_ca1, k_ca2, k_retR, e_callR, k_cr1, k_cr2, k_cr3, e_tr, k_tr1, k_tr2, k_tr3, e_bl, k_bl, e_and, k_and, e_or, k_or, e_not, k_not, e_if, k_if, e_ifS, k_ifS, e_notV, k_nv1, k_nv2, e_andV, k_av1, k_av2, e_orV, k_ov1, k_ov2, bD_bl, e_sl, k_sl1, k_sl2, k_sl3, k_sl4, e_part, k_pt1, k_pt2, e_noP, e_dget, k_ge1, k_ge1b, k_ge2, k_ge3, k_ge4, dctD_d, keyD_i, keyD_s, e_mut, q_mu0, k_mu1, k_mu2, q_mu3, k_mu4, e_put, k_pu1, k_pu2, k_pu3, k_pu4, q_pu4, k_pu5, e_aug, q_au0, k_au1, k_au2, k_au3, e_asg, k_as1, k_as2, e_par, k_pa1, k_pa2, e_unp, k_up1, k_up2, e_hName, e_hNil, e_hCons, k_hc, e_hTup, e_hWt, e_drop, k_dr, e_ret, k_rt_d, k_rt_o, k_rt_b, q_out_o, q_out_d, forL_nil, forL_cons, k_fo2, e_for, k_fo1, k_wh, e_itS, k_it1, k_it2, k_it3, walk_l, walk_f, walk_t, e_itR1, k_r11, k_r12, e_itR2, k_r21, k_r22, e_itE, k_en1, k_en2, k_en3, list_l, list_f, e_lc, k_lc, k_lcQ, compL_nil, compL_cons, k_c1, k_c2, k_c3, k_c4, e_yes, wip_nil, wip_cons, unw_nil, unw_cons, g_int, f_add, f_sub, f_mul, f_div, f_mod, f_pow, f_lt, f_le, f_gt, f_ge, add_i, add_s, add_l, add_t, mul_i, mul_l, mul_t, neg_i, ix_l, ix_t, sl_l, sl_f, sl_t, len_l, len_f, len_t, len_s, abs_i, int_i, lof_l, lof_f, lof_t, tof_l, tof_f, tof_t, dof_t, app_l, ext_t, ext_l, tru_b, tru_i, tru_l, tru_t, tru_n, augN, subN, is_bl, is_non, ixN4_0, ixN4_1, ixN4_2, ixN4_3, lk_some, lk_ite, lk_map, lk_bind, ixOf, endsF_nx, endsF_dat, endsF_own, atI_0, atI_1, atI_2, atI_3, eqA_l0, eqA_tup0, eqA_int, eqA_non, bne_f, bne_t, sizeLine_eq,
  List.cons_append, List.nil_append, List.getElem?_cons_zero, List.getElem?_cons_succ, List.set_cons_zero, List.set_cons_succ, List.length_cons, List.length_nil, List.replicate, List.take_succ_cons, List.take_zero, List.not_mem_nil, List.mem_cons, List.map_cons, List.map_nil, if_false, if_true, Option.map_some, Option.bind_some, Option.getD_some, Nat.reduceAdd, Nat.reduceSub, Nat.reduceLeDiff, Nat.reduceEqDiff, Nat.succ_ne_zero, Nat.zero_ne_one, Nat.one_ne_zero, List.isEmpty_nil, List.isEmpty_cons, List.length_map, List.isEmpty_map, beq_iff_eq, Bool.not_eq_true, reduceCtorEq, or_false, or_true, false_or, true_or, and_true, true_and, List.cons.injEq, Option.some.injEq, Sl.own.injEq, Own.lst.injEq, exists_eq', not_false_eq_true, forall_const, forall_eq, forall_eq_or_imp, decide_eq_true_eq, Bool.not_true, Bool.not_false, Bool.false_eq_true, ite_self])
def wordsT : List Str := ["open", "close", "move", "turn", "Open", "", "opened", "shut"]
/-- what a step is looked for in -/
structure StOk (d : D) : Prop where
  ty : TyOk d
  len : ∀ l, d = .tup l → l.length ≤ 1000
  tys : ∀ l, d = .tup l → ∀ e ∈ l, TyOk e
  num : ∀ l i, d = .tup l → .int i ∈ l → i.natAbs < 2 ^ 1000
  wrd : ∀ w r, d = .tup (.str w :: r) → w ∈ wordsT
end DL

set_option Elab.async false
set_option maxRecDepth 100000
set_option maxHeartbeats 4000000
/-! S37d: what lies behind a step. -/
namespace DL
open PySem PySem.Spec PyProof.Rows L2
local macro_rules | `(tactic| walk_at "dl") => `(tactic| simp (config := {decide := false}) only [e_eqO, k_eo0, k_eo1, k_eo2, k_eo3, e_cnt, k_cn0, k_cn1, k_cn2, k_cn3, isLst_l, cntD_i, e_fld, k_fl1, k_fl2, k_fl3, insD_i, e_setF, k_sf1, k_sf2, q_sf, e_make, k_mk1, k_mk2, k_mk3, e_never, e_callRR, k_rr1, k_rr2, k_rr3, k_rr4, e_itEA, k_ea1, k_ea2, e_itT2, k_i1, k_i2, e_m1, k_m1, k_m1b, k_m2, k_m3, k_m4, e_itZ, k_z1, e_scLen, k_sc, k_scQ, compT_nil, compT_cons, k_t1, k_t2, k_t2b, k_t3, e_chain, k_ch, k_ch0, k_ch1, k_ch2, k_ch3, k_ch4, k_ch5, k_ch6, rev_l, rev_f, rev_t, clear_l, lista_s, max_2, min_2, inA_s, ix_s, mulA_si, seqE_nx, seqE_rt, seqE_bk, seqE_ct, loopE_nx, loopE_rt, loopE_bk, loopE_ct, e_seq, e_next, e_break, e_cont, e_retN, e_var, q_var_d, q_var_o, e_c, con_d, con_o, con_b, conS_d, conS_o, own_l, own_d, own_i, z_d, z_n, z_t, z_w, sl_d, sl_o, frz_d, frz_o, frz_b, q_frz_d, q_frz_o, frzs_nil, frzs_cons, k_fzs, k_fz, thin_d, thin_o, thin_b, k_th, thins_nil, thins_cons, k_ths, k_ts, setR_nil, setR_cons, k_e, e_op, k_op1, k_op2, k_op3, k_op4, e_un, k_un1, k_un2, e_nil, e_cons, k_co1, k_co2, conL_nil, conL_cons, k_cl, k_cl2, e_b, k_b1, k_b2, e_tup, k_tup1, k_tup2, e_lst, k_lst1, k_lst2, e_dct0, k_ret, e_call, k_ca1, k_ca2, k_retR, e_callR, k_cr1, k_cr2, k_cr3, e_tr, k_tr1, k_tr2, k_tr3, e_bl, k_bl, e_and, k_and, e_or, k_or, e_not, k_not, e_if, k_if, e_ifS, k_ifS, e_notV, k_nv1, k_nv2, e_andV, k_av1, k_av2, e_orV, k_ov1, k_ov2, bD_bl, e_sl, k_sl1, k_sl2, k_sl3, k_sl4, e_part, k_pt1, k_pt2, e_noP, e_dget, k_ge1, k_ge1b, k_ge2, k_ge3, k_ge4, dctD_d, keyD_i, keyD_s, e_mut, q_mu0, k_mu1, k_mu2, q_mu3, k_mu4, e_put, k_pu1, k_pu2, k_pu3, k_pu4, q_pu4, k_pu5, e_aug, q_au0, k_au1, k_au2, k_au3, e_asg, k_as1, k_as2, e_par, k_pa1, k_pa2, e_unp, k_up1, k_up2, e_hName, e_hNil, e_hCons, k_hc, e_hTup, e_hWt, e_drop, k_dr, e_ret, k_rt_d, k_rt_o, k_rt_b, q_out_o, q_out_d, forL_nil, forL_cons, k_fo2, e_for, k_fo1, k_wh, e_itS, k_it1, k_it2, k_it3, walk_l, walk_f, walk_t, e_itR1, k_r11, k_r12, e_itR2, k_r21, k_r22, e_itE, k_en1, k_en2, k_en3, list_l, list_f, e_lc, k_lc, k_lcQ, compL_nil, compL_cons, k_c1, k_c2, k_c3, k_c4, e_yes, wip_nil, wip_cons, unw_nil, unw_cons, g_int, f_add, f_sub, f_mul, f_div, f_mod, f_pow, f_lt, f_le, f_gt, f_ge, add_i, add_s, add_l, add_t, mul_i, mul_l, mul_t, neg_i, ix_l, ix_t, sl_l, sl_f, sl_t, len_l, len_f, len_t, len_s, abs_i, int_i, lof_l, lof_f, lof_t, tof_l, tof_f, tof_t, dof_t, app_l, ext_t, ext_l, tru_b, tru_i, tru_l, tru_t, tru_n, augN, subN, is_bl, is_non, ixN4_0, ixN4_1, ixN4_2, ixN4_3, lk_some, lk_ite, lk_map, lk_bind, ixOf, endsF_nx, endsF_dat, endsF_own, atI_0, atI_1, atI_2, atI_3, eqA_l0, eqA_tup0, eqA_int, eqA_non, bne_f, bne_t, sizeLine_eq,
  List.cons_append, List.nil_append, List.getElem?_cons_zero, List.getElem?_cons_succ, List.set_cons_zero, List.set_cons_succ, List.length_cons, List.length_nil, List.replicate, List.take_succ_cons, List.take_zero, List.not_mem_nil, List.mem_cons, List.map_cons, List.map_nil, if_false, if_true, Option.map_some, Option.bind_some, Option.getD_some, Nat.reduceAdd, Nat.reduceSub, Nat.reduceLeDiff, Nat.reduceEqDiff, Nat.succ_ne_zero, Nat.zero_ne_one, Nat.one_ne_zero, List.isEmpty_nil, List.isEmpty_cons, List.length_map, List.isEmpty_map, beq_iff_eq, Bool.not_eq_true, reduceCtorEq, or_false, or_true, false_or, true_or, and_true, true_and, List.cons.injEq, Option.some.injEq, Sl.own.injEq, Own.lst.injEq, exists_eq', not_false_eq_true, forall_const, forall_eq, forall_eq_or_imp, decide_eq_true_eq, Bool.not_true, Bool.not_false, Bool.false_eq_true, ite_self])
/-- what of a kind the steps ask -/
structure KindW (k : Kind) : Prop where
  leaf : ∃ t, (t, 0) ∈ k
  rng : ∀ q ∈ k, 0 ≤ q.2 ∧ q.2 ≤ 4
  len : k.length ≤ 8
theorem KindOk.w {k : Kind} (h : KindOk k) : KindW k := ⟨h.leaf, fun q hq => ⟨(h.rng q hq).1, (h.rng q hq).2.1⟩, h.len⟩
end DL

set_option Elab.async false
set_option maxRecDepth 100000
set_option maxHeartbeats 4000000
/-! DKN: what the program says of kinds (names, variants, kinds, polynomials), beside the deck pot. -/
namespace DL.Pot
open DL PySem PySem.Spec PyProof.Rows L2
local macro_rules | `(tactic| walk_at "dl") => `(tactic| simp (config := {decide := false, implicitDefEqProofs := false}) only [e_ixO, k_oi0, k_oi1, k_oi2, e_prop, k_pr1, k_pr2, e_binO, k_bo0, k_bo1, k_bo2, e_eqO, k_eo0, k_eo1, k_eo2, k_eo3, e_cnt, k_cn0, k_cn1, k_cn2, k_cn3, isLst_l, cntD_i, e_fld, k_fl1, k_fl2, k_fl3, insD_i, e_setF, k_sf1, k_sf2, q_sf, e_make, k_mk1, k_mk2, k_mk3, e_never, e_callRR, k_rr1, k_rr2, k_rr3, k_rr4, e_itEA, k_ea1, k_ea2, e_itT2, k_i1, k_i2, e_m1, k_m1, k_m1b, k_m2, k_m3, k_m4, e_itZ, k_z1, e_scLen, k_sc, k_scQ, compT_nil, compT_cons, k_t1, k_t2, k_t2b, k_t3, e_chain, k_ch, k_ch0, k_ch1, k_ch2, k_ch3, k_ch4, k_ch5, k_ch6, rev_l, rev_f, rev_t, clear_l, lista_s, max_2, min_2, inA_s, ix_s, mulA_si, seqE_nx, seqE_rt, seqE_bk, seqE_ct, loopE_nx, loopE_rt, loopE_bk, loopE_ct, e_seq, e_next, e_break, e_cont, e_retN, e_var, q_var_d, q_var_o, e_c, con_d, con_o, con_b, conS_d, conS_o, own_l, own_d, own_i, z_d, z_n, z_t, z_w, sl_d, sl_o, frz_d, frz_o, frz_b, q_frz_d, q_frz_o, frzs_nil, frzs_cons, k_fzs, k_fz, thin_d, thin_o, thin_b, k_th, thins_nil, thins_cons, k_ths, k_ts, setR_nil, setR_cons, k_e, e_op, k_op1, k_op2, k_op3, k_op4, e_un, k_un1, k_un2, e_nil, e_cons, k_co1, k_co2, conL_nil, conL_cons, k_cl, k_cl2, e_b, k_b1, k_b2, e_tup, k_tup1, k_tup2, e_lst, k_lst1, k_lst2, e_dct0, k_ret, e_call, k_ca1, k_ca2, k_retR, e_callR, k_cr1, k_cr2, k_cr3, e_tr, k_tr1, k_tr2, k_tr3, e_bl, k_bl, e_and, k_and, e_or, k_or, e_not, k_not, e_if, k_if, e_ifS, k_ifS, e_notV, k_nv1, k_nv2, e_andV, k_av1, k_av2, e_orV, k_ov1, k_ov2, bD_bl, e_sl, k_sl1, k_sl2, k_sl3, k_sl4, e_part, k_pt1, k_pt2, e_noP, e_dget, k_ge1, k_ge1b, k_ge2, k_ge3, k_ge4, dctD_d, keyD_i, keyD_s, e_mut, q_mu0, k_mu1, k_mu2, q_mu3, k_mu4, e_put, k_pu1, k_pu2, k_pu3, k_pu4, q_pu4, k_pu5, e_aug, q_au0, k_au1, k_au2, k_au3, e_asg, k_as1, k_as2, e_par, k_pa1, k_pa2, e_unp, k_up1, k_up2, e_hName, e_hNil, e_hCons, k_hc, e_hTup, e_hWt, e_drop, k_dr, e_ret, k_rt_d, k_rt_o, k_rt_b, q_out_o, q_out_d, forL_nil, forL_cons, k_fo2, e_for, k_fo1, k_wh, e_itS, k_it1, k_it2, k_it3, walk_l, walk_f, walk_t, e_itR1, k_r11, k_r12, e_itR2, k_r21, k_r22, e_itE, k_en1, k_en2, k_en3, list_l, list_f, e_lc, k_lc, k_lcQ, compL_nil, compL_cons, k_c1, k_c2, k_c3, k_c4, e_yes, wip_nil, wip_cons, unw_nil, unw_cons, g_int, f_add, f_sub, f_mul, f_div, f_mod, f_pow, f_lt, f_le, f_gt, f_ge, add_i, add_s, add_l, add_t, mul_i, mul_l, mul_t, neg_i, ix_l, ix_t, sl_l, sl_f, sl_t, len_l, len_f, len_t, len_s, abs_i, int_i, lof_l, lof_f, lof_t, tof_l, tof_f, tof_t, dof_t, app_l, ext_t, ext_l, tru_b, tru_i, tru_l, tru_t, tru_n, augN, subN, is_bl, is_non, ixN4_0, ixN4_1, ixN4_2, ixN4_3, lk_some, lk_ite, lk_map, lk_bind, ixOf, endsF_nx, endsF_dat, endsF_own, atI_0, atI_1, atI_2, atI_3, eqA_l0, eqA_tup0, eqA_int, eqA_non, bne_f, bne_t, sizeLine_eq,
  List.cons_append, List.nil_append, List.getElem?_cons_zero, List.getElem?_cons_succ, List.set_cons_zero, List.set_cons_succ, List.length_cons, List.length_nil, List.replicate, List.take_succ_cons, List.take_zero, List.not_mem_nil, List.mem_cons, List.map_cons, List.map_nil, if_false, if_true, Option.map_some, Option.bind_some, Option.getD_some, Nat.reduceAdd, Nat.reduceSub, Nat.reduceLeDiff, Nat.reduceEqDiff, Nat.succ_ne_zero, Nat.zero_ne_one, Nat.one_ne_zero, List.isEmpty_nil, List.isEmpty_cons, List.length_map, List.isEmpty_map, beq_iff_eq, Bool.not_eq_true, reduceCtorEq, or_false, or_true, false_or, true_or, and_true, true_and, List.cons.injEq, Option.some.injEq, Sl.own.injEq, Own.lst.injEq, exists_eq', not_false_eq_true, forall_const, forall_eq, forall_eq_or_imp, decide_eq_true_eq, Bool.not_true, Bool.not_false, Bool.false_eq_true, ite_self])
local macro_rules | `(tactic| walk_at "dlf") => `(tactic| simp (config := {decide := false, implicitDefEqProofs := false}) only [e_ixO, k_oi0, k_oi1, k_oi2, e_prop, k_pr1, k_pr2, e_binO, k_bo0, k_bo1, k_bo2, e_eqO, k_eo0, k_eo1, k_eo2, k_eo3, e_cnt, k_cn0, k_cn1, k_cn2, k_cn3, isLst_l, cntD_i, e_fld, k_fl1, k_fl2, k_fl3, insD_i, e_setF, k_sf1, k_sf2, q_sf, e_make, k_mk1, k_mk2, k_mk3, e_never, e_callRR, k_rr1, k_rr2, k_rr3, k_rr4, e_itEA, k_ea1, k_ea2, e_itT2, k_i1, k_i2, e_m1, k_m1, k_m1b, k_m2, k_m3, k_m4, e_itZ, k_z1, e_scLen, k_sc, k_scQ, compT_nil, compT_cons, k_t1, k_t2, k_t2b, k_t3, e_chain, k_ch, k_ch0, k_ch1, k_ch2, k_ch3, k_ch4, k_ch5, k_ch6, rev_l, rev_f, rev_t, clear_l, lista_s, max_2, min_2, inA_s, ix_s, mulA_si, seqE_nx, seqE_rt, seqE_bk, seqE_ct, loopE_nx, loopE_rt, loopE_bk, loopE_ct, e_seq, e_next, e_break, e_cont, e_retN, e_var, q_var_d, q_var_o, e_c, con_d, con_o, con_b, conS_d, conS_o, own_l, own_d, own_i, z_d, z_n, z_t, z_w, sl_d, sl_o, frz_d, frz_o, frz_b, q_frz_d, q_frz_o, frzs_nil, frzs_cons, k_fzs, k_fz, thin_d, thin_o, thin_b, k_th, thins_nil, thins_cons, k_ths, k_ts, setR_nil, setR_cons, k_e, e_op, k_op1, k_op2, k_op3, k_op4, e_un, k_un1, k_un2, e_nil, e_cons, k_co1, k_co2, conL_nil, conL_cons, k_cl, k_cl2, e_b, k_b1, k_b2, e_tup, k_tup1, k_tup2, e_lst, k_lst1, k_lst2, e_dct0, k_ret, e_call, k_ca1, k_ca2, k_retR, e_callR, k_cr1, k_cr2, k_cr3, e_tr, k_tr1, k_tr2, k_tr3, e_bl, k_bl, e_and, k_and, e_or, k_or, e_not, k_not, e_if, k_if, e_ifS, k_ifS, e_notV, k_nv1, k_nv2, e_andV, k_av1, k_av2, e_orV, k_ov1, k_ov2, bD_bl, e_sl, k_sl1, k_sl2, k_sl3, k_sl4, e_part, k_pt1, k_pt2, e_noP, e_dget, k_ge1, k_ge1b, k_ge2, k_ge3, k_ge4, dctD_d, keyD_i, keyD_s, e_mut, q_mu0, k_mu1, k_mu2, q_mu3, k_mu4, e_put, k_pu1, k_pu2, k_pu3, k_pu4, q_pu4, k_pu5, e_aug, q_au0, k_au1, k_au2, k_au3, e_asg, k_as1, k_as2, e_par, k_pa1, k_pa2, e_unp, k_up1, k_up2, e_hName, e_hNil, e_hCons, k_hc, e_hTup, e_hWt, e_drop, k_dr, e_ret, k_rt_d, k_rt_o, k_rt_b, q_out_o, q_out_d, forL_nil, k_fo2, e_for, k_fo1, k_wh, e_itS, k_it1, k_it2, k_it3, walk_l, walk_f, walk_t, e_itR1, k_r11, k_r12, e_itR2, k_r21, k_r22, e_itE, k_en1, k_en2, k_en3, list_l, list_f, e_lc, k_lc, k_lcQ, compL_nil, k_c1, k_c2, k_c3, k_c4, e_yes, wip_nil, wip_cons, unw_nil, unw_cons, g_int, f_add, f_sub, f_mul, f_div, f_mod, f_pow, f_lt, f_le, f_gt, f_ge, add_i, add_s, add_l, add_t, mul_i, mul_l, mul_t, neg_i, ix_l, ix_t, sl_l, sl_f, sl_t, len_l, len_f, len_t, len_s, abs_i, int_i, lof_l, lof_f, lof_t, tof_l, tof_f, tof_t, dof_t, app_l, ext_t, ext_l, tru_b, tru_i, tru_l, tru_t, tru_n, augN, subN, is_bl, is_non, ixN4_0, ixN4_1, ixN4_2, ixN4_3, lk_some, lk_ite, lk_map, lk_bind, ixOf, endsF_nx, endsF_dat, endsF_own, atI_0, atI_1, atI_2, atI_3, eqA_l0, eqA_tup0, eqA_int, eqA_non, bne_f, bne_t, sizeLine_eq,
  List.cons_append, List.nil_append, List.getElem?_cons_zero, List.getElem?_cons_succ, List.set_cons_zero, List.set_cons_succ, List.length_cons, List.length_nil, List.replicate, List.take_succ_cons, List.take_zero, List.not_mem_nil, List.mem_cons, List.map_cons, List.map_nil, if_false, if_true, Option.map_some, Option.bind_some, Option.getD_some, Nat.reduceAdd, Nat.reduceSub, Nat.reduceLeDiff, Nat.reduceEqDiff, Nat.succ_ne_zero, Nat.zero_ne_one, Nat.one_ne_zero, List.isEmpty_nil, List.isEmpty_cons, List.length_map, List.isEmpty_map, beq_iff_eq, Bool.not_eq_true, reduceCtorEq, or_false, or_true, false_or, true_or, and_true, true_and, List.cons.injEq, Option.some.injEq, Sl.own.injEq, Own.lst.injEq, exists_eq', not_false_eq_true, forall_const, forall_eq, forall_eq_or_imp, decide_eq_true_eq, Bool.not_true, Bool.not_false, Bool.false_eq_true, ite_self])
local macro_rules | `(tactic| walk_at "len") => `(tactic| first | omega | (simp only [List.length_append, List.length_cons, List.length_nil, List.length_map, List.length_singleton, List.length_replicate, List.length_range, List.length_take, List.length_drop, List.length_reverse]; omega) | (simp; omega) | (simp; done))
def nameB : D → Bool
  | .str x => nameS x
  | _ => false
theorem signsD_eq (x : Str) : signsD x = x.cps.toList.map chD := rfl
def rd_is_name (ks : List Nat) : SD :=
  (wSeq (wIfS (wOr (wNot (wTr (wB gIsi (wCons (wVar 0) (wCons (wC (.ty "str")) wNil))))) (wOr (wNot (wBl (wChain (gInt fLe) (gInt fLe) (wC (.int 1)) (wB gLen (wCons (wVar 0) wNil)) (wC (.int 8))))) (wBl (wOp (gInA true) (wOp gIx (wVar 0) (wC (.int 0))) (wC (.str "abcdefghijklmnopqrstuvwxyz")))))) (wRet ks (wC (.bl false))) wNext)
  (wRet ks (wB gAll (wCons (wLc ks (wItT2 (wVar 0)) (hName ks 1) wYes (wOrV (wOp (gInA false) (wVar 1) (wC (.str "abcdefghijklmnopqrstuvwxyz"))) (wOp (gInA false) (wVar 1) (wC (.str "0123456789")))) [1]) wNil))))
def sp_is_name : DSp := fun args Q _ => ∃ d : D, args = [.dat d] ∧ Pl d ∧ Q (.dat (.bl (nameB d))) [.dat d]
theorem nm_comp {s0 : Sl} {QI : List D → Rho → Prop} : ∀ (cs : List Nat) (acc : List D), acc.length + cs.length ≤ 8 → QI (acc ++ cs.map fun c => .bl (signB c)) [s0, .no] →
    compL [] (hName [] 1) wYes (wOrV (wOp (gInA false) (wVar 1) (wC (.str "abcdefghijklmnopqrstuvwxyz"))) (wOp (gInA false) (wVar 1) (wC (.str "0123456789")))) [1] (cs.map chD) acc [s0, .no] QI
  | [], acc, _, q => by
    rw [List.map_nil, List.append_nil] at q
    exact q
  | c :: cs, acc, h, q => by
    rw [List.length_cons] at h
    rw [List.map_cons] at q
    have go : ∀ b : Bool, b = signB c → compL [] (hName [] 1) wYes (wOrV (wOp (gInA false) (wVar 1) (wC (.str "abcdefghijklmnopqrstuvwxyz"))) (wOp (gInA false) (wVar 1) (wC (.str "0123456789")))) [1] (cs.map chD) (acc ++ [.bl b]) [s0, .no] QI := fun b hb => by
      subst hb
      refine nm_comp cs _ (by rw [List.length_append, List.length_singleton]; omega) ?_
      rw [List.append_assoc]
      exact q
    rw [List.map_cons]
    show compL _ _ _ _ _ (.str ⟨#[c]⟩ :: _) _ _ _
    walk_at "dl"
    split
    · rename_i hc
      refine ⟨by omega, go _ ?_⟩
      unfold signB
      rw [hc]; rfl
    · rename_i hc
      refine ⟨by omega, go _ ?_⟩
      unfold signB
      rw [Bool.eq_false_iff.mpr hc]; rfl
theorem str_or (d : D) : (∃ x, d = .str x) ∨ isStr d = false := by cases d <;> first | exact .inl ⟨_, rfl⟩ | exact .inr rfl
theorem name_no {d : D} (h : isStr d = false) : nameB d = false := by cases d <;> first | rfl | cases h
theorem atI_head : ∀ {l : List Nat}, 1 ≤ (l.length : Int) → ∃ c, atI l 0 = some c ∧ headB l = inS LET ⟨#[c]⟩
  | [], h => by simp at h
  | c :: l, _ => ⟨c, atI_0, rfl⟩
theorem pl_is_name : PL 2 1 rd_is_name sp_is_name := fun args QD ED h => by
  obtain ⟨d, rfl, hd, h⟩ := h
  refine ⟨rfl, ?_⟩
  unfold rd_is_name
  walk_at "dl"
  rcases str_or d with ⟨x, rfl⟩ | hs
  · have hl : x.length ≤ 100 := by rw [pl_str] at hd; exact hd.2
    rw [lk_eq (rfl : gIsi [.str x, .ty "str"] = some (.d (.bl true)))]
    walk_at "dl"
    rw [if_neg (by decide)]
    refine ⟨by omega, ?_⟩
    have h : QD (.dat (.bl (decide ((1 : Int) ≤ (x.length : Int)) && (decide ((x.length : Int) ≤ 8) && (headB x.cps.toList && x.cps.toList.all signB))))) [.dat (.str x)] := h
    by_cases h1 : (1 : Int) ≤ (x.length : Int)
    · rw [if_pos h1]
      rw [decide_eq_true h1, Bool.true_and] at h
      by_cases h2 : (x.length : Int) ≤ 8
      · rw [decide_eq_true h2, Bool.true_and] at h
        rw [decide_eq_true h2, if_neg (by decide), if_pos (show x.length ≤ 16777216 by omega), lk_map]
        obtain ⟨c, e1, e2⟩ := atI_head (l := x.cps.toList) (by rw [← str_len]; exact h1)
        rw [e2] at h
        rw [lk_eq e1]
        walk_at "dl"
        cases hc : inS LET ⟨#[c]⟩ with
        | false =>
          rw [hc] at h
          rw [if_pos (by decide)]
          exact h
        | true =>
          rw [hc, Bool.true_and] at h
          rw [if_neg (by decide)]
          refine ⟨fun o z => (by cases z), ?_⟩
          rw [signsD_eq]
          refine nm_comp x.cps.toList [] (by rw [List.length_nil, ← str_len]; omega) ?_
          walk_at "dl"
          rw [lk_eq (all_map signB x.cps.toList)]
          walk_at "dl"
          exact h
      · rw [decide_eq_false h2, Bool.false_and] at h
        rw [decide_eq_false h2, if_pos (by decide)]
        exact h
    · rw [if_neg h1]
      rw [decide_eq_false h1, Bool.false_and] at h
      exact h
  · rw [lk_eq (isi_str hd), hs]
    walk_at "dl"
    rw [name_no hs] at h
    exact h

end DL.Pot

set_option Elab.async false
set_option maxRecDepth 100000
set_option maxHeartbeats 4000000
/-! S01a. -/
namespace DL.Pot.Er
open DL PySem PySem.Spec PyProof.Rows L2
local macro_rules | `(tactic| walk_at "dl") => `(tactic| simp (config := {decide := false, implicitDefEqProofs := false}) only [e_new0, e_newF, k_nf1, k_nf2, e_newG, k_ng1, k_ng2, e_tryK, k_keep, k_keepD, exc_n, exc_s, is_x0, is_x1, e_fx, k_fx1, e_lm, k_lm0, k_lm1, k_lm2, k_lm3, e_star, k_st1, k_st2, k_st3, frzs_dats, frzs_datL, List.append_nil, e_opX, k_ox0, k_ox1, k_ox2a, k_ox2b, k_ox2c, e_augX, sl_dat, sl_own, k_ax1, k_ax3d, k_ax3o, e_raise, e_callX, k_cx1, k_cx2, k_cx3, k_cx4, e_makeX, k_mx1, k_mx2, k_endX, e_try, k_cls0, k_cls1, pick_t, pick_f, cl_n, cl_s, gone_nx, gone_rt, e_xf, k_xf, e_raiseF, k_rf1, k_rf2, e_dct1, e_odd, k_od0, k_od1, k_od2n, k_od2b, k_od2i, k_od2s, k_od2l, k_od2t, k_od2d, k_tls, e_itRv, k_rv1, k_rv2, e_fmt, strS_s, e_cm, k_cm1, k_cm2, e_makeL, q_cl, e_meth0, k_me1, k_me2, e_mulL, k_ml0, k_ml1, k_ml2, e_mulR, k_mr0, k_mr1, k_mr2, max_3, e_callB, e_makeB, brw_nil, brw_dat, brw_bor, e_aliF, e_ali, k_ali, e_neL, k_nl0, k_nl1, k_nl2, e_own1, k_ow1, k_ow2, k_tlb, k_tln, e_inO, k_io0, k_io1, k_io2, e_callO, k_cf0d, k_cf0b, k_refSl, k_cf1, k_cf2, e_callW, k_cw1, k_cw2, e_itZM, k_zm1, k_zm2l, k_zm2ll, e_ixO, k_oi0, k_oi1, k_oi2, e_prop, k_pr1, k_pr2, e_binO, k_bo0, k_bo1, k_bo2, e_eqO, k_eo0, k_eo1, k_eo2, k_eo3, e_cnt, k_cn0, k_cn1, k_cn2, k_cn3, isLst_l, cntD_i, e_fld, k_fl1, k_fl2, k_fl3, insD_i, e_setF, k_sf1, k_sf2, q_sf, e_make, k_mk1, k_mk2, k_mk3, e_never, e_callRR, k_rr1, k_rr2, k_rr3, k_rr4, e_itEA, k_ea1, k_ea2, e_itT2, k_i1, k_i2, e_m1, k_m1, k_m1b, k_m2, k_m3, k_m4, e_itZ, k_z1, e_scLen, k_sc, k_scQ, compT_nil, compT_cons, k_t1, k_t2, k_t2b, k_t3, e_chain, k_ch, k_ch0, k_ch1, k_ch2, k_ch3, k_ch4, k_ch5, k_ch6, rev_l, rev_f, rev_t, clear_l, lista_s, max_2, min_2, inA_s, ix_s, mulA_si, seqE_nx, seqE_rt, seqE_bk, seqE_ct, loopE_nx, loopE_rt, loopE_bk, loopE_ct, e_seq, e_next, e_break, e_cont, e_retN, e_var, q_var_d, q_var_o, e_c, con_d, con_o, con_b, conS_d, conS_o, own_l, own_d, own_i, z_d, z_n, z_t, z_w, sl_d, sl_o, frz_d, frz_o, frz_b, q_frz_d, q_frz_o, frzs_nil, frzs_cons, k_fzs, k_fz, thin_d, thin_o, thin_b, k_th, thins_nil, thins_cons, k_ths, k_ts, setR_nil, setR_cons, k_e, e_op, k_op1, k_op2, k_op3, k_op4, e_un, k_un1, k_un2, e_nil, e_cons, k_co1, k_co2, conL_nil, conL_cons, k_cl, k_cl2, e_b, k_b1, k_b2, e_tup, k_tup1, k_tup2, e_lst, k_lst1, k_lst2, e_dct0, k_ret, e_call, k_ca1, k_ca2, k_retR, e_callR, k_cr1, k_cr2, k_cr3, e_tr, k_tr1, k_tr2, k_tr3, e_bl, k_bl, e_and, k_and, e_or, k_or, e_not, k_not, e_if, k_if, e_ifS, k_ifS, e_notV, k_nv1, k_nv2, e_andV, k_av1, k_av2, e_orV, k_ov1, k_ov2, bD_bl, e_sl, k_sl1, k_sl2, k_sl3, k_sl4, e_part, k_pt1, k_pt2, e_noP, e_dget, k_ge1, k_ge1b, k_ge2, k_ge3, k_ge4, dctD_d, keyD_i, keyD_s, e_mut, q_mu0, k_mu1, k_mu2, q_mu3, k_mu4, e_put, k_pu1, k_pu2, k_pu3, k_pu4, q_pu4, k_pu5, e_aug, q_au0, k_au1, k_au2, k_au3, e_asg, k_as1, k_as2, e_par, k_pa1, k_pa2, e_unp, k_up1, k_up2, e_hName, e_hNil, e_hCons, k_hc, e_hTup, e_hWt, e_drop, k_dr, e_ret, k_rt_d, k_rt_o, k_rt_b, q_out_o, q_out_d, forL_nil, forL_cons, k_fo2, e_for, k_fo1, k_wh, e_itS, k_it1, k_it2, k_it3, walk_l, walk_f, walk_t, e_itR1, k_r11, k_r12, e_itR2, k_r21, k_r22, e_itE, k_en1, k_en2, k_en3, list_l, list_f, e_lc, k_lc, k_lcQ, compL_nil, compL_cons, k_c1, k_c2, k_c3, k_c4, e_yes, wip_nil, wip_cons, unw_nil, unw_cons, g_int, f_add, f_sub, f_mul, f_div, f_mod, f_pow, f_lt, f_le, f_gt, f_ge, add_i, add_s, add_l, add_t, mul_i, mul_l, mul_t, neg_i, ix_l, ix_t, sl_l, sl_f, sl_t, len_l, len_f, len_t, len_s, abs_i, int_i, lof_l, lof_f, lof_t, tof_l, tof_f, tof_t, dof_t, app_l, ext_t, ext_l, tru_b, tru_i, tru_l, tru_t, tru_n, augN, subN, is_bl, is_non, ixN4_0, ixN4_1, ixN4_2, ixN4_3, lk_some, lk_ite, lk_map, lk_bind, ixOf, endsF_nx, endsF_dat, endsF_own, atI_0, atI_1, atI_2, atI_3, eqA_l0, eqA_tup0, eqA_int, eqA_non, bne_f, bne_t, sizeLine_eq,
  List.cons_append, List.nil_append, List.getElem?_cons_zero, List.getElem?_cons_succ, List.set_cons_zero, List.set_cons_succ, List.length_cons, List.length_nil, List.replicate, List.take_succ_cons, List.take_zero, List.not_mem_nil, List.mem_cons, List.map_cons, List.map_nil, if_false, if_true, Option.map_some, Option.bind_some, Option.getD_some, Nat.reduceAdd, Nat.reduceSub, Nat.reduceLeDiff, Nat.reduceEqDiff, Nat.succ_ne_zero, Nat.zero_ne_one, Nat.one_ne_zero, List.isEmpty_nil, List.isEmpty_cons, List.length_map, List.isEmpty_map, beq_iff_eq, Bool.not_eq_true, reduceCtorEq, or_false, or_true, false_or, true_or, and_true, true_and, List.cons.injEq, Option.some.injEq, Sl.own.injEq, Own.lst.injEq, exists_eq', not_false_eq_true, forall_const, forall_eq, forall_eq_or_imp, decide_eq_true_eq, Bool.not_true, Bool.not_false, Bool.false_eq_true, ite_self])
local macro_rules | `(tactic| walk_at "dlf") => `(tactic| simp (config := {decide := false, implicitDefEqProofs := false}) only [e_new0, e_newF, k_nf1, k_nf2, e_newG, k_ng1, k_ng2, e_tryK, k_keep, k_keepD, exc_n, exc_s, is_x0, is_x1, e_fx, k_fx1, e_lm, k_lm0, k_lm1, k_lm2, k_lm3, e_star, k_st1, k_st2, k_st3, frzs_dats, frzs_datL, List.append_nil, e_opX, k_ox0, k_ox1, k_ox2a, k_ox2b, k_ox2c, e_augX, sl_dat, sl_own, k_ax1, k_ax3d, k_ax3o, e_raise, e_callX, k_cx1, k_cx2, k_cx3, k_cx4, e_makeX, k_mx1, k_mx2, k_endX, e_try, k_cls0, k_cls1, pick_t, pick_f, cl_n, cl_s, gone_nx, gone_rt, e_xf, k_xf, e_raiseF, k_rf1, k_rf2, e_dct1, e_odd, k_od0, k_od1, k_od2n, k_od2b, k_od2i, k_od2s, k_od2l, k_od2t, k_od2d, k_tls, e_itRv, k_rv1, k_rv2, e_fmt, strS_s, e_cm, k_cm1, k_cm2, e_makeL, q_cl, e_meth0, k_me1, k_me2, e_mulL, k_ml0, k_ml1, k_ml2, e_mulR, k_mr0, k_mr1, k_mr2, max_3, e_callB, e_makeB, brw_nil, brw_dat, brw_bor, e_aliF, e_ali, k_ali, e_neL, k_nl0, k_nl1, k_nl2, e_own1, k_ow1, k_ow2, k_tlb, k_tln, e_inO, k_io0, k_io1, k_io2, e_callO, k_cf0d, k_cf0b, k_refSl, k_cf1, k_cf2, e_callW, k_cw1, k_cw2, e_itZM, k_zm1, k_zm2l, k_zm2ll, e_ixO, k_oi0, k_oi1, k_oi2, e_prop, k_pr1, k_pr2, e_binO, k_bo0, k_bo1, k_bo2, e_eqO, k_eo0, k_eo1, k_eo2, k_eo3, e_cnt, k_cn0, k_cn1, k_cn2, k_cn3, isLst_l, cntD_i, e_fld, k_fl1, k_fl2, k_fl3, insD_i, e_setF, k_sf1, k_sf2, q_sf, e_make, k_mk1, k_mk2, k_mk3, e_never, e_callRR, k_rr1, k_rr2, k_rr3, k_rr4, e_itEA, k_ea1, k_ea2, e_itT2, k_i1, k_i2, e_m1, k_m1, k_m1b, k_m2, k_m3, k_m4, e_itZ, k_z1, e_scLen, k_sc, k_scQ, compT_nil, compT_cons, k_t1, k_t2, k_t2b, k_t3, e_chain, k_ch, k_ch0, k_ch1, k_ch2, k_ch3, k_ch4, k_ch5, k_ch6, rev_l, rev_f, rev_t, clear_l, lista_s, max_2, min_2, inA_s, ix_s, mulA_si, seqE_nx, seqE_rt, seqE_bk, seqE_ct, loopE_nx, loopE_rt, loopE_bk, loopE_ct, e_seq, e_next, e_break, e_cont, e_retN, e_var, q_var_d, q_var_o, e_c, con_d, con_o, con_b, conS_d, conS_o, own_l, own_d, own_i, z_d, z_n, z_t, z_w, sl_d, sl_o, frz_d, frz_o, frz_b, q_frz_d, q_frz_o, frzs_nil, frzs_cons, k_fzs, k_fz, thin_d, thin_o, thin_b, k_th, thins_nil, thins_cons, k_ths, k_ts, setR_nil, setR_cons, k_e, e_op, k_op1, k_op2, k_op3, k_op4, e_un, k_un1, k_un2, e_nil, e_cons, k_co1, k_co2, conL_nil, conL_cons, k_cl, k_cl2, e_b, k_b1, k_b2, e_tup, k_tup1, k_tup2, e_lst, k_lst1, k_lst2, e_dct0, k_ret, e_call, k_ca1, k_ca2, k_retR, e_callR, k_cr1, k_cr2, k_cr3, e_tr, k_tr1, k_tr2, k_tr3, e_bl, k_bl, e_and, k_and, e_or, k_or, e_not, k_not, e_if, k_if, e_ifS, k_ifS, e_notV, k_nv1, k_nv2, e_andV, k_av1, k_av2, e_orV, k_ov1, k_ov2, bD_bl, e_sl, k_sl1, k_sl2, k_sl3, k_sl4, e_part, k_pt1, k_pt2, e_noP, e_dget, k_ge1, k_ge1b, k_ge2, k_ge3, k_ge4, dctD_d, keyD_i, keyD_s, e_mut, q_mu0, k_mu1, k_mu2, q_mu3, k_mu4, e_put, k_pu1, k_pu2, k_pu3, k_pu4, q_pu4, k_pu5, e_aug, q_au0, k_au1, k_au2, k_au3, e_asg, k_as1, k_as2, e_par, k_pa1, k_pa2, e_unp, k_up1, k_up2, e_hName, e_hNil, e_hCons, k_hc, e_hTup, e_hWt, e_drop, k_dr, e_ret, k_rt_d, k_rt_o, k_rt_b, q_out_o, q_out_d, forL_nil, k_fo2, e_for, k_fo1, k_wh, e_itS, k_it1, k_it2, k_it3, walk_l, walk_f, walk_t, e_itR1, k_r11, k_r12, e_itR2, k_r21, k_r22, e_itE, k_en1, k_en2, k_en3, list_l, list_f, e_lc, k_lc, k_lcQ, compL_nil, k_c1, k_c2, k_c3, k_c4, e_yes, wip_nil, wip_cons, unw_nil, unw_cons, g_int, f_add, f_sub, f_mul, f_div, f_mod, f_pow, f_lt, f_le, f_gt, f_ge, add_i, add_s, add_l, add_t, mul_i, mul_l, mul_t, neg_i, ix_l, ix_t, sl_l, sl_f, sl_t, len_l, len_f, len_t, len_s, abs_i, int_i, lof_l, lof_f, lof_t, tof_l, tof_f, tof_t, dof_t, app_l, ext_t, ext_l, tru_b, tru_i, tru_l, tru_t, tru_n, augN, subN, is_bl, is_non, ixN4_0, ixN4_1, ixN4_2, ixN4_3, lk_some, lk_ite, lk_map, lk_bind, ixOf, endsF_nx, endsF_dat, endsF_own, atI_0, atI_1, atI_2, atI_3, eqA_l0, eqA_tup0, eqA_int, eqA_non, bne_f, bne_t, sizeLine_eq,
  List.cons_append, List.nil_append, List.getElem?_cons_zero, List.getElem?_cons_succ, List.set_cons_zero, List.set_cons_succ, List.length_cons, List.length_nil, List.replicate, List.take_succ_cons, List.take_zero, List.not_mem_nil, List.mem_cons, List.map_cons, List.map_nil, if_false, if_true, Option.map_some, Option.bind_some, Option.getD_some, Nat.reduceAdd, Nat.reduceSub, Nat.reduceLeDiff, Nat.reduceEqDiff, Nat.succ_ne_zero, Nat.zero_ne_one, Nat.one_ne_zero, List.isEmpty_nil, List.isEmpty_cons, List.length_map, List.isEmpty_map, beq_iff_eq, Bool.not_eq_true, reduceCtorEq, or_false, or_true, false_or, true_or, and_true, true_and, List.cons.injEq, Option.some.injEq, Sl.own.injEq, Own.lst.injEq, exists_eq', not_false_eq_true, forall_const, forall_eq, forall_eq_or_imp, decide_eq_true_eq, Bool.not_true, Bool.not_false, Bool.false_eq_true, ite_self])
local macro_rules | `(tactic| walk_at "len") => `(tactic| first | omega | (simp only [List.length_append, List.length_cons, List.length_nil, List.length_map, List.length_singleton, List.length_replicate, List.length_range, List.length_take, List.length_drop, List.length_reverse]; omega) | (simp; omega) | (simp; done))
/-! ### is it a name -/
def rd_is_name (ks : List Nat) : SD :=
  (wSeq (wIfS (wOr (wNot (wTr (wB gIsi (wCons (wVar 0) (wCons (wC (.ty "str")) wNil))))) (wOr (wNot (wBl (wChain (gInt fLe) (gInt fLe) (wC (.int 1)) (wB gLen (wCons (wVar 0) wNil)) (wC (.int 8))))) (wBl (wOp (gInA true) (wOp gIx (wVar 0) (wC (.int 0))) (wC (.str "abcdefghijklmnopqrstuvwxyz")))))) (wRet ks (wC (.bl false))) wNext)
  (wRet ks (wB gAll (wCons (wLc ks (wItT2 (wVar 0)) (hName ks 1) wYes (wOrV (wOp (gInA false) (wVar 1) (wC (.str "abcdefghijklmnopqrstuvwxyz"))) (wOp (gInA false) (wVar 1) (wC (.str "0123456789")))) [1]) wNil))))
def sp_is_name : DSp := fun args Q _ => ∃ d : D, args = [.dat d] ∧ TyOk d ∧ (∀ x, d = .str x → x.length ≤ 1000) ∧ Q (.dat (.bl (nameB d))) [.dat d]
theorem pl_is_name : PL 2 1 rd_is_name sp_is_name := fun args QD ED h => by
  obtain ⟨d, rfl, ht, hd, h⟩ := h
  refine ⟨rfl, ?_⟩
  unfold rd_is_name
  walk_at "dl"
  rcases str_or d with ⟨x, rfl⟩ | hs
  · have hl : x.length ≤ 1000 := hd x rfl
    rw [lk_eq (rfl : gIsi [.str x, .ty "str"] = some (.d (.bl true)))]
    walk_at "dl"
    rw [if_neg (by decide)]
    refine ⟨by omega, ?_⟩
    have h : QD (.dat (.bl (decide ((1 : Int) ≤ (x.length : Int)) && (decide ((x.length : Int) ≤ 8) && (headB x.cps.toList && x.cps.toList.all signB))))) [.dat (.str x)] := h
    by_cases h1 : (1 : Int) ≤ (x.length : Int)
    · rw [if_pos h1]
      rw [decide_eq_true h1, Bool.true_and] at h
      by_cases h2 : (x.length : Int) ≤ 8
      · rw [decide_eq_true h2, Bool.true_and] at h
        rw [decide_eq_true h2, if_neg (by decide), if_pos (show x.length ≤ 16777216 by omega), lk_map]
        obtain ⟨c, e1, e2⟩ := atI_head (l := x.cps.toList) (by rw [← str_len]; exact h1)
        rw [e2] at h
        rw [lk_eq e1]
        walk_at "dl"
        cases hc : inS LET ⟨#[c]⟩ with
        | false =>
          rw [hc] at h
          rw [if_pos (by decide)]
          exact h
        | true =>
          rw [hc, Bool.true_and] at h
          rw [if_neg (by decide)]
          refine ⟨fun o z => (by cases z), ?_⟩
          rw [signsD_eq]
          refine nm_comp x.cps.toList [] (by rw [List.length_nil, ← str_len]; omega) ?_
          walk_at "dl"
          rw [lk_eq (all_map signB x.cps.toList)]
          walk_at "dl"
          exact h
      · rw [decide_eq_false h2, Bool.false_and] at h
        rw [decide_eq_false h2, if_pos (by decide)]
        exact h
    · rw [if_neg h1]
      rw [decide_eq_false h1, Bool.false_and] at h
      exact h
  · rw [lk_eq (isi_strT ht), show strB d = false by cases d <;> first | rfl | cases hs]
    walk_at "dl"
    rw [name_no hs] at h
    exact h
def rd__law_is_named (ks : List Nat) : SD :=
  (wSeq (wPar ks [1, 2] (wCons (wC (.str "abcdefghijklmnopqrstuvwxyz")) (wCons (wC (.str "0123456789")) wNil)))
  (wSeq (wIfS (wOr (wNot (wBl (wChain (gInt fLe) (gInt fLe) (wC (.int 1)) (wB gLen (wCons (wVar 0) wNil)) (wC (.int 8))))) (wBl (wOp (gInA true) (wOp gIx (wVar 0) (wC (.int 0))) (wVar 1)))) (wRet ks (wC (.bl false))) wNext)
  (wRet ks (wOp (gEqA false) (wLc ks (wItT2 (wVar 0)) (hName ks 3) (wAnd (wBl (wOp (gInA true) (wVar 3) (wVar 1))) (wBl (wOp (gInA true) (wVar 3) (wVar 2)))) (wVar 3) [3]) (wLst ks wNil)))))
def sp__law_is_named : DSp := fun args Q _ => ∃ x : Str, args = [.dat (.str x)] ∧ x.length ≤ 1000 ∧ Q (.dat (.bl (nameS x))) [.dat (.str x)]
def oddB (c : Nat) : Bool := !inS LET ⟨#[c]⟩ && !inS FIG ⟨#[c]⟩
theorem odd_sign (l : List Nat) : (l.filter oddB).isEmpty = l.all signB := by
  induction l with
  | nil => rfl
  | cons c l ih =>
    rw [List.filter_cons, List.all_cons, ← ih]
    unfold oddB signB
    cases inS LET ⟨#[c]⟩ <;> cases inS FIG ⟨#[c]⟩ <;> simp
theorem nd_comp {s0 : Sl} {QI : List D → Rho → Prop} : ∀ (cs : List Nat) (acc : List D), acc.length + cs.length ≤ 8 → QI (acc ++ (cs.filter oddB).map chD) [s0, .dat (.str LET), .dat (.str FIG), .no] →
    compL [] (hName [] 3) (wAnd (wBl (wOp (gInA true) (wVar 3) (wVar 1))) (wBl (wOp (gInA true) (wVar 3) (wVar 2)))) (wVar 3) [3] (cs.map chD) acc [s0, .dat (.str LET), .dat (.str FIG), .no] QI
  | [], acc, _, q => by
    rw [List.filter_nil, List.map_nil, List.append_nil] at q
    exact q
  | c :: cs, acc, h, q => by
    rw [List.length_cons] at h
    rw [List.filter_cons] at q
    rw [List.map_cons]
    show compL _ _ _ _ _ (.str ⟨#[c]⟩ :: _) _ _ _
    walk_at "dl"
    unfold oddB at q
    cases h1 : inS LET ⟨#[c]⟩ with
    | true =>
      rw [h1, Bool.not_true, Bool.false_and, if_neg (by decide)] at q
      rw [if_neg (by decide)]
      exact nd_comp cs acc (by omega) q
    | false =>
      rw [h1, Bool.not_false, Bool.true_and] at q
      rw [if_pos (by decide)]
      cases h2 : inS FIG ⟨#[c]⟩ with
      | true =>
        rw [h2, Bool.not_true, if_neg (by decide)] at q
        rw [if_neg (by decide)]
        exact nd_comp cs acc (by omega) q
      | false =>
        rw [h2, Bool.not_false, if_pos rfl] at q
        rw [if_pos (by decide)]
        refine ⟨by omega, nd_comp cs _ (by rw [List.length_append, List.length_singleton]; omega) ?_⟩
        rw [List.append_assoc]
        exact q
theorem pl__law_is_named : PL 4 1 rd__law_is_named sp__law_is_named := fun args QD ED h => by
  obtain ⟨x, rfl, hl, h⟩ := h
  refine ⟨rfl, ?_⟩
  unfold rd__law_is_named
  walk_at "dl"
  refine ⟨by omega, ?_⟩
  have h : QD (.dat (.bl (decide ((1 : Int) ≤ (x.length : Int)) && (decide ((x.length : Int) ≤ 8) && (headB x.cps.toList && x.cps.toList.all signB))))) [.dat (.str x)] := h
  by_cases h1 : (1 : Int) ≤ (x.length : Int)
  · rw [if_pos h1]
    rw [decide_eq_true h1, Bool.true_and] at h
    by_cases h2 : (x.length : Int) ≤ 8
    · rw [decide_eq_true h2, Bool.true_and] at h
      rw [decide_eq_true h2, if_neg (by decide), if_pos (show x.length ≤ 16777216 by omega), lk_map]
      obtain ⟨c, e1, e2⟩ := atI_head (l := x.cps.toList) (by rw [← str_len]; exact h1)
      rw [e2] at h
      rw [lk_eq e1]
      walk_at "dl"
      cases hc : inS LET ⟨#[c]⟩ with
      | false =>
        rw [hc] at h
        rw [if_pos (by decide)]
        exact h
      | true =>
        rw [hc, Bool.true_and] at h
        rw [if_neg (by decide)]
        refine ⟨fun o z => (by cases z), ?_⟩
        rw [signsD_eq]
        refine nd_comp x.cps.toList [] (by rw [List.length_nil, ← str_len]; omega) ?_
        walk_at "dl"
        rw [odd_sign]
        exact h
    · rw [decide_eq_false h2, Bool.false_and] at h
      rw [decide_eq_false h2, if_pos (by decide)]
      exact h
  · rw [if_neg h1]
    rw [decide_eq_false h1, Bool.false_and] at h
    exact h

end DL.Pot.Er

set_option Elab.async false
set_option maxRecDepth 100000
set_option maxHeartbeats 4000000
/-! S01b. -/
namespace DL.Pot.Er
open DL PySem PySem.Spec PyProof.Rows L2
local macro_rules | `(tactic| walk_at "dl") => `(tactic| simp (config := {decide := false, implicitDefEqProofs := false}) only [e_new0, e_newF, k_nf1, k_nf2, e_newG, k_ng1, k_ng2, e_tryK, k_keep, k_keepD, exc_n, exc_s, is_x0, is_x1, e_fx, k_fx1, e_lm, k_lm0, k_lm1, k_lm2, k_lm3, e_star, k_st1, k_st2, k_st3, frzs_dats, frzs_datL, List.append_nil, e_opX, k_ox0, k_ox1, k_ox2a, k_ox2b, k_ox2c, e_augX, sl_dat, sl_own, k_ax1, k_ax3d, k_ax3o, e_raise, e_callX, k_cx1, k_cx2, k_cx3, k_cx4, e_makeX, k_mx1, k_mx2, k_endX, e_try, k_cls0, k_cls1, pick_t, pick_f, cl_n, cl_s, gone_nx, gone_rt, e_xf, k_xf, e_raiseF, k_rf1, k_rf2, e_dct1, e_odd, k_od0, k_od1, k_od2n, k_od2b, k_od2i, k_od2s, k_od2l, k_od2t, k_od2d, k_tls, e_itRv, k_rv1, k_rv2, e_fmt, strS_s, e_cm, k_cm1, k_cm2, e_makeL, q_cl, e_meth0, k_me1, k_me2, e_mulL, k_ml0, k_ml1, k_ml2, e_mulR, k_mr0, k_mr1, k_mr2, max_3, e_callB, e_makeB, brw_nil, brw_dat, brw_bor, e_aliF, e_ali, k_ali, e_neL, k_nl0, k_nl1, k_nl2, e_own1, k_ow1, k_ow2, k_tlb, k_tln, e_inO, k_io0, k_io1, k_io2, e_callO, k_cf0d, k_cf0b, k_refSl, k_cf1, k_cf2, e_callW, k_cw1, k_cw2, e_itZM, k_zm1, k_zm2l, k_zm2ll, e_ixO, k_oi0, k_oi1, k_oi2, e_prop, k_pr1, k_pr2, e_binO, k_bo0, k_bo1, k_bo2, e_eqO, k_eo0, k_eo1, k_eo2, k_eo3, e_cnt, k_cn0, k_cn1, k_cn2, k_cn3, isLst_l, cntD_i, e_fld, k_fl1, k_fl2, k_fl3, insD_i, e_setF, k_sf1, k_sf2, q_sf, e_make, k_mk1, k_mk2, k_mk3, e_never, e_callRR, k_rr1, k_rr2, k_rr3, k_rr4, e_itEA, k_ea1, k_ea2, e_itT2, k_i1, k_i2, e_m1, k_m1, k_m1b, k_m2, k_m3, k_m4, e_itZ, k_z1, e_scLen, k_sc, k_scQ, compT_nil, compT_cons, k_t1, k_t2, k_t2b, k_t3, e_chain, k_ch, k_ch0, k_ch1, k_ch2, k_ch3, k_ch4, k_ch5, k_ch6, rev_l, rev_f, rev_t, clear_l, lista_s, max_2, min_2, inA_s, ix_s, mulA_si, seqE_nx, seqE_rt, seqE_bk, seqE_ct, loopE_nx, loopE_rt, loopE_bk, loopE_ct, e_seq, e_next, e_break, e_cont, e_retN, e_var, q_var_d, q_var_o, e_c, con_d, con_o, con_b, conS_d, conS_o, own_l, own_d, own_i, z_d, z_n, z_t, z_w, sl_d, sl_o, frz_d, frz_o, frz_b, q_frz_d, q_frz_o, frzs_nil, frzs_cons, k_fzs, k_fz, thin_d, thin_o, thin_b, k_th, thins_nil, thins_cons, k_ths, k_ts, setR_nil, setR_cons, k_e, e_op, k_op1, k_op2, k_op3, k_op4, e_un, k_un1, k_un2, e_nil, e_cons, k_co1, k_co2, conL_nil, conL_cons, k_cl, k_cl2, e_b, k_b1, k_b2, e_tup, k_tup1, k_tup2, e_lst, k_lst1, k_lst2, e_dct0, k_ret, e_call, k_ca1, k_ca2, k_retR, e_callR, k_cr1, k_cr2, k_cr3, e_tr, k_tr1, k_tr2, k_tr3, e_bl, k_bl, e_and, k_and, e_or, k_or, e_not, k_not, e_if, k_if, e_ifS, k_ifS, e_notV, k_nv1, k_nv2, e_andV, k_av1, k_av2, e_orV, k_ov1, k_ov2, bD_bl, e_sl, k_sl1, k_sl2, k_sl3, k_sl4, e_part, k_pt1, k_pt2, e_noP, e_dget, k_ge1, k_ge1b, k_ge2, k_ge3, k_ge4, dctD_d, keyD_i, keyD_s, e_mut, q_mu0, k_mu1, k_mu2, q_mu3, k_mu4, e_put, k_pu1, k_pu2, k_pu3, k_pu4, q_pu4, k_pu5, e_aug, q_au0, k_au1, k_au2, k_au3, e_asg, k_as1, k_as2, e_par, k_pa1, k_pa2, e_unp, k_up1, k_up2, e_hName, e_hNil, e_hCons, k_hc, e_hTup, e_hWt, e_drop, k_dr, e_ret, k_rt_d, k_rt_o, k_rt_b, q_out_o, q_out_d, forL_nil, forL_cons, k_fo2, e_for, k_fo1, k_wh, e_itS, k_it1, k_it2, k_it3, walk_l, walk_f, walk_t, e_itR1, k_r11, k_r12, e_itR2, k_r21, k_r22, e_itE, k_en1, k_en2, k_en3, list_l, list_f, e_lc, k_lc, k_lcQ, compL_nil, compL_cons, k_c1, k_c2, k_c3, k_c4, e_yes, wip_nil, wip_cons, unw_nil, unw_cons, g_int, f_add, f_sub, f_mul, f_div, f_mod, f_pow, f_lt, f_le, f_gt, f_ge, add_i, add_s, add_l, add_t, mul_i, mul_l, mul_t, neg_i, ix_l, ix_t, sl_l, sl_f, sl_t, len_l, len_f, len_t, len_s, abs_i, int_i, lof_l, lof_f, lof_t, tof_l, tof_f, tof_t, dof_t, app_l, ext_t, ext_l, tru_b, tru_i, tru_l, tru_t, tru_n, augN, subN, is_bl, is_non, ixN4_0, ixN4_1, ixN4_2, ixN4_3, lk_some, lk_ite, lk_map, lk_bind, ixOf, endsF_nx, endsF_dat, endsF_own, atI_0, atI_1, atI_2, atI_3, eqA_l0, eqA_tup0, eqA_int, eqA_non, bne_f, bne_t, sizeLine_eq,
  List.cons_append, List.nil_append, List.getElem?_cons_zero, List.getElem?_cons_succ, List.set_cons_zero, List.set_cons_succ, List.length_cons, List.length_nil, List.replicate, List.take_succ_cons, List.take_zero, List.not_mem_nil, List.mem_cons, List.map_cons, List.map_nil, if_false, if_true, Option.map_some, Option.bind_some, Option.getD_some, Nat.reduceAdd, Nat.reduceSub, Nat.reduceLeDiff, Nat.reduceEqDiff, Nat.succ_ne_zero, Nat.zero_ne_one, Nat.one_ne_zero, List.isEmpty_nil, List.isEmpty_cons, List.length_map, List.isEmpty_map, beq_iff_eq, Bool.not_eq_true, reduceCtorEq, or_false, or_true, false_or, true_or, and_true, true_and, List.cons.injEq, Option.some.injEq, Sl.own.injEq, Own.lst.injEq, exists_eq', not_false_eq_true, forall_const, forall_eq, forall_eq_or_imp, decide_eq_true_eq, Bool.not_true, Bool.not_false, Bool.false_eq_true, ite_self])
local macro_rules | `(tactic| walk_at "dlf") => `(tactic| simp (config := {decide := false, implicitDefEqProofs := false}) only [e_new0, e_newF, k_nf1, k_nf2, e_newG, k_ng1, k_ng2, e_tryK, k_keep, k_keepD, exc_n, exc_s, is_x0, is_x1, e_fx, k_fx1, e_lm, k_lm0, k_lm1, k_lm2, k_lm3, e_star, k_st1, k_st2, k_st3, frzs_dats, frzs_datL, List.append_nil, e_opX, k_ox0, k_ox1, k_ox2a, k_ox2b, k_ox2c, e_augX, sl_dat, sl_own, k_ax1, k_ax3d, k_ax3o, e_raise, e_callX, k_cx1, k_cx2, k_cx3, k_cx4, e_makeX, k_mx1, k_mx2, k_endX, e_try, k_cls0, k_cls1, pick_t, pick_f, cl_n, cl_s, gone_nx, gone_rt, e_xf, k_xf, e_raiseF, k_rf1, k_rf2, e_dct1, e_odd, k_od0, k_od1, k_od2n, k_od2b, k_od2i, k_od2s, k_od2l, k_od2t, k_od2d, k_tls, e_itRv, k_rv1, k_rv2, e_fmt, strS_s, e_cm, k_cm1, k_cm2, e_makeL, q_cl, e_meth0, k_me1, k_me2, e_mulL, k_ml0, k_ml1, k_ml2, e_mulR, k_mr0, k_mr1, k_mr2, max_3, e_callB, e_makeB, brw_nil, brw_dat, brw_bor, e_aliF, e_ali, k_ali, e_neL, k_nl0, k_nl1, k_nl2, e_own1, k_ow1, k_ow2, k_tlb, k_tln, e_inO, k_io0, k_io1, k_io2, e_callO, k_cf0d, k_cf0b, k_refSl, k_cf1, k_cf2, e_callW, k_cw1, k_cw2, e_itZM, k_zm1, k_zm2l, k_zm2ll, e_ixO, k_oi0, k_oi1, k_oi2, e_prop, k_pr1, k_pr2, e_binO, k_bo0, k_bo1, k_bo2, e_eqO, k_eo0, k_eo1, k_eo2, k_eo3, e_cnt, k_cn0, k_cn1, k_cn2, k_cn3, isLst_l, cntD_i, e_fld, k_fl1, k_fl2, k_fl3, insD_i, e_setF, k_sf1, k_sf2, q_sf, e_make, k_mk1, k_mk2, k_mk3, e_never, e_callRR, k_rr1, k_rr2, k_rr3, k_rr4, e_itEA, k_ea1, k_ea2, e_itT2, k_i1, k_i2, e_m1, k_m1, k_m1b, k_m2, k_m3, k_m4, e_itZ, k_z1, e_scLen, k_sc, k_scQ, compT_nil, compT_cons, k_t1, k_t2, k_t2b, k_t3, e_chain, k_ch, k_ch0, k_ch1, k_ch2, k_ch3, k_ch4, k_ch5, k_ch6, rev_l, rev_f, rev_t, clear_l, lista_s, max_2, min_2, inA_s, ix_s, mulA_si, seqE_nx, seqE_rt, seqE_bk, seqE_ct, loopE_nx, loopE_rt, loopE_bk, loopE_ct, e_seq, e_next, e_break, e_cont, e_retN, e_var, q_var_d, q_var_o, e_c, con_d, con_o, con_b, conS_d, conS_o, own_l, own_d, own_i, z_d, z_n, z_t, z_w, sl_d, sl_o, frz_d, frz_o, frz_b, q_frz_d, q_frz_o, frzs_nil, frzs_cons, k_fzs, k_fz, thin_d, thin_o, thin_b, k_th, thins_nil, thins_cons, k_ths, k_ts, setR_nil, setR_cons, k_e, e_op, k_op1, k_op2, k_op3, k_op4, e_un, k_un1, k_un2, e_nil, e_cons, k_co1, k_co2, conL_nil, conL_cons, k_cl, k_cl2, e_b, k_b1, k_b2, e_tup, k_tup1, k_tup2, e_lst, k_lst1, k_lst2, e_dct0, k_ret, e_call, k_ca1, k_ca2, k_retR, e_callR, k_cr1, k_cr2, k_cr3, e_tr, k_tr1, k_tr2, k_tr3, e_bl, k_bl, e_and, k_and, e_or, k_or, e_not, k_not, e_if, k_if, e_ifS, k_ifS, e_notV, k_nv1, k_nv2, e_andV, k_av1, k_av2, e_orV, k_ov1, k_ov2, bD_bl, e_sl, k_sl1, k_sl2, k_sl3, k_sl4, e_part, k_pt1, k_pt2, e_noP, e_dget, k_ge1, k_ge1b, k_ge2, k_ge3, k_ge4, dctD_d, keyD_i, keyD_s, e_mut, q_mu0, k_mu1, k_mu2, q_mu3, k_mu4, e_put, k_pu1, k_pu2, k_pu3, k_pu4, q_pu4, k_pu5, e_aug, q_au0, k_au1, k_au2, k_au3, e_asg, k_as1, k_as2, e_par, k_pa1, k_pa2, e_unp, k_up1, k_up2, e_hName, e_hNil, e_hCons, k_hc, e_hTup, e_hWt, e_drop, k_dr, e_ret, k_rt_d, k_rt_o, k_rt_b, q_out_o, q_out_d, forL_nil, k_fo2, e_for, k_fo1, k_wh, e_itS, k_it1, k_it2, k_it3, walk_l, walk_f, walk_t, e_itR1, k_r11, k_r12, e_itR2, k_r21, k_r22, e_itE, k_en1, k_en2, k_en3, list_l, list_f, e_lc, k_lc, k_lcQ, compL_nil, k_c1, k_c2, k_c3, k_c4, e_yes, wip_nil, wip_cons, unw_nil, unw_cons, g_int, f_add, f_sub, f_mul, f_div, f_mod, f_pow, f_lt, f_le, f_gt, f_ge, add_i, add_s, add_l, add_t, mul_i, mul_l, mul_t, neg_i, ix_l, ix_t, sl_l, sl_f, sl_t, len_l, len_f, len_t, len_s, abs_i, int_i, lof_l, lof_f, lof_t, tof_l, tof_f, tof_t, dof_t, app_l, ext_t, ext_l, tru_b, tru_i, tru_l, tru_t, tru_n, augN, subN, is_bl, is_non, ixN4_0, ixN4_1, ixN4_2, ixN4_3, lk_some, lk_ite, lk_map, lk_bind, ixOf, endsF_nx, endsF_dat, endsF_own, atI_0, atI_1, atI_2, atI_3, eqA_l0, eqA_tup0, eqA_int, eqA_non, bne_f, bne_t, sizeLine_eq,
  List.cons_append, List.nil_append, List.getElem?_cons_zero, List.getElem?_cons_succ, List.set_cons_zero, List.set_cons_succ, List.length_cons, List.length_nil, List.replicate, List.take_succ_cons, List.take_zero, List.not_mem_nil, List.mem_cons, List.map_cons, List.map_nil, if_false, if_true, Option.map_some, Option.bind_some, Option.getD_some, Nat.reduceAdd, Nat.reduceSub, Nat.reduceLeDiff, Nat.reduceEqDiff, Nat.succ_ne_zero, Nat.zero_ne_one, Nat.one_ne_zero, List.isEmpty_nil, List.isEmpty_cons, List.length_map, List.isEmpty_map, beq_iff_eq, Bool.not_eq_true, reduceCtorEq, or_false, or_true, false_or, true_or, and_true, true_and, List.cons.injEq, Option.some.injEq, Sl.own.injEq, Own.lst.injEq, exists_eq', not_false_eq_true, forall_const, forall_eq, forall_eq_or_imp, decide_eq_true_eq, Bool.not_true, Bool.not_false, Bool.false_eq_true, ite_self])
local macro_rules | `(tactic| walk_at "len") => `(tactic| first | omega | (simp only [List.length_append, List.length_cons, List.length_nil, List.length_map, List.length_singleton, List.length_replicate, List.length_range, List.length_take, List.length_drop, List.length_reverse]; omega) | (simp; omega) | (simp; done))
/-! ### errors -/
/-- the classes -/
structure Xs where
  TM : Addr
  SP : Addr
  NS : Addr
  NK : Addr
  XA : Addr
  XB : Addr
  XC : Addr
  XD1 : Addr
  XE1 : Addr
  XF : Addr
  XG : Addr
  XH : Addr
  XI : Addr
  XJ : Addr
  NW : Addr
  NT : Addr
def Xs.l (x : Xs) : List Addr := [x.TM, x.SP, x.NS, x.NK, x.XA, x.XB, x.XC, x.XD1, x.XE1, x.XF, x.XG, x.XH, x.XI, x.XJ, x.NW, x.NT]
/-- what is known of them -/
structure XsK (x : Xs) (LE : Addr) (ik : Addr → D → Option Bool) (xk : Addr → Str → Bool) : Prop where
  nd : x.l.Nodup
  is : ∀ C ∈ x.l, ∀ E ∈ x.l, ik C (.cls E) = some (decide (C = E))
  le : ∀ C ∈ x.l, ik C (.cls LE) = some true
  ve : ∀ C ∈ x.l, ik C (.ty "ValueError") = some true
  x1 : xk x.TM "limit" = true
  x2 : xk x.SP "line" = true
  x3 : xk x.SP "column" = true
  x4 : xk x.NS "place" = true
  x5 : xk x.NK "answer" = true
  x6 : xk x.NW "place" = true
  x7 : xk x.NT "fault" = true
abbrev conD : D := .tup [.str "constant"]
abbrev nonT (a : Int) : D := .tup [.str "none", .int a]
def errL (x : Xs) (a b : Int) : List D := [.exc x.TM [("limit", .int a)], .exc x.SP [("column", .int a), ("line", .int b)], .exc x.NS [("place", .int b)], .exc x.NK [("answer", conD)], .exc0 x.XA, .exc0 x.XB, .exc0 x.XC, .exc0 x.XD1, .exc0 x.XE1, .exc0 x.XF, .exc0 x.XG, .exc0 x.XH, .exc0 x.XI, .exc0 x.XJ, .exc x.NW [("place", .int b)], .exc x.NT [("fault", nonT a)]]
def rd__law_made (ks : List Nat) (NK : Addr) (NS : Addr) (NT : Addr) (NW : Addr) (SP : Addr) (TM : Addr) (XA : Addr) (XB : Addr) (XC : Addr) (XD1 : Addr) (XE1 : Addr) (XF : Addr) (XG : Addr) (XH : Addr) (XI : Addr) (XJ : Addr) : SD :=
  (wSeq (wAsg ks 2 (wLst ks (wCons (wNewF ks TM "limit" okI (wCons (wVar 0) wNil)) (wCons (wNewG ks SP "line" "column" okI (wCons (wVar 1) (wCons (wVar 0) wNil))) (wCons (wNewF ks NS "place" okI (wCons (wVar 1) wNil)) (wCons (wNewF ks NK "answer" okA (wCons (wTup ks (wCons (wC (.str "constant")) wNil)) wNil)) (wCons (wNew0 XA) wNil)))))))
  (wSeq (wAsg ks 2 (wOp gAdd (wVar 2) (wLst ks (wCons (wNew0 XB) (wCons (wNew0 XC) (wCons (wNew0 XD1) (wCons (wNew0 XE1) (wCons (wNew0 XF) (wCons (wNew0 XG) (wCons (wNew0 XH) wNil))))))))))
  (wRet ks (wOp gAdd (wVar 2) (wLst ks (wCons (wNew0 XI) (wCons (wNew0 XJ) (wCons (wNewF ks NW "place" okI (wCons (wVar 1) wNil)) (wCons (wNewF ks NT "fault" okA (wCons (wTup ks (wCons (wC (.str "none")) (wCons (wVar 0) wNil))) wNil)) wNil)))))))))
theorem okI_of {i : Int} (h : i.natAbs.log2 < 1920) : okI (.int i) := h
def sp__law_made (x : Xs) : DSp := fun args Q _ => ∃ a b : Int, args = [.dat (.int a), .dat (.int b)] ∧ a.natAbs.log2 < 1900 ∧ b.natAbs.log2 < 1900 ∧ Q (.own (.lst (errL x a b))) [.dat (.int a), .dat (.int b)]
theorem pl__law_made (x : Xs) : PL 3 2 (fun ks => rd__law_made ks x.NK x.NS x.NT x.NW x.SP x.TM x.XA x.XB x.XC x.XD1 x.XE1 x.XF x.XG x.XH x.XI x.XJ) (sp__law_made x) := fun args QD ED h => by
  obtain ⟨a, b, rfl, ha, hb, h⟩ := h
  have oa : okI (.int a) := okI_of (by omega)
  have ob : okI (.int b) := okI_of (by omega)
  refine ⟨rfl, ?_⟩
  unfold rd__law_made
  walk_at "dlf"
  exact ⟨oa, ob, oa, ob, True.intro, ob, True.intro, h⟩
def rd__law_classes (ks : List Nat) (em : Addr → Addr → Option Bool) (ik : Addr → D → Option Bool) (NK : Addr) (NS : Addr) (NT : Addr) (NW : Addr) (SP : Addr) (TM : Addr) (XA : Addr) (XB : Addr) (XC : Addr) (XD1 : Addr) (XE1 : Addr) (XF : Addr) (XG : Addr) (XH : Addr) (XI : Addr) (XJ : Addr) : SD :=
  (wSeq (wAsg ks 1 (wLst ks (wCons (wB (gIsX ik) (wCons (wVar 0) (wCons (wC (.cls TM)) wNil))) (wCons (wB (gIsX ik) (wCons (wVar 0) (wCons (wC (.cls SP)) wNil))) (wCons (wB (gIsX ik) (wCons (wVar 0) (wCons (wC (.cls NS)) wNil))) wNil)))))
  (wSeq (wAsg ks 1 (wOp gAdd (wVar 1) (wLst ks (wCons (wB (gIsX ik) (wCons (wVar 0) (wCons (wC (.cls NK)) wNil))) (wCons (wB (gIsX ik) (wCons (wVar 0) (wCons (wC (.cls XA)) wNil))) (wCons (wB (gIsX ik) (wCons (wVar 0) (wCons (wC (.cls XB)) wNil))) wNil))))))
  (wSeq (wAsg ks 1 (wOp gAdd (wVar 1) (wLst ks (wCons (wB (gIsX ik) (wCons (wVar 0) (wCons (wC (.cls XC)) wNil))) (wCons (wB (gIsX ik) (wCons (wVar 0) (wCons (wC (.cls XD1)) wNil))) (wCons (wB (gIsX ik) (wCons (wVar 0) (wCons (wC (.cls XE1)) wNil))) wNil))))))
  (wSeq (wAsg ks 1 (wOp gAdd (wVar 1) (wLst ks (wCons (wB (gIsX ik) (wCons (wVar 0) (wCons (wC (.cls XF)) wNil))) (wCons (wB (gIsX ik) (wCons (wVar 0) (wCons (wC (.cls XG)) wNil))) (wCons (wB (gIsX ik) (wCons (wVar 0) (wCons (wC (.cls XH)) wNil))) wNil))))))
  (wSeq (wAsg ks 1 (wOp gAdd (wVar 1) (wLst ks (wCons (wB (gIsX ik) (wCons (wVar 0) (wCons (wC (.cls XI)) wNil))) (wCons (wB (gIsX ik) (wCons (wVar 0) (wCons (wC (.cls XJ)) wNil))) wNil)))))
  (wRet ks (wOp gAdd (wVar 1) (wLst ks (wCons (wB (gIsX ik) (wCons (wVar 0) (wCons (wC (.cls NW)) wNil))) (wCons (wB (gIsX ik) (wCons (wVar 0) (wCons (wC (.cls NT)) wNil))) wNil))))))))))
/-- an exception of a class -/
def ExcOf (C : Addr) (d : D) : Prop := d = .exc0 C ∨ ∃ l, d = .exc C l
theorem gisx_of {ik : Addr → D → Option Bool} {C : Addr} {d c : D} {r : Bool} (h : ExcOf C d) (e : ik C c = some r) : gIsX ik [d, c] = some (.d (.bl r)) := by
  rcases h with rfl | ⟨l, rfl⟩
  · rw [is_x0, e]; rfl
  · rw [is_x1, e]; rfl
def sp__law_classes (x : Xs) : DSp := fun args Q _ => ∃ (C : Addr) (d : D), args = [.dat d] ∧ ExcOf C d ∧ C ∈ x.l ∧ Q (.own (.lst (x.l.map fun E => .bl (decide (C = E))))) [.dat d]
theorem pl__law_classes {em : Addr → Addr → Option Bool} {ik : Addr → D → Option Bool} {xk : Addr → Str → Bool} (x : Xs) (LE : Addr) (K : XsK x LE ik xk) : PL 2 1 (fun ks => rd__law_classes ks em ik x.NK x.NS x.NT x.NW x.SP x.TM x.XA x.XB x.XC x.XD1 x.XE1 x.XF x.XG x.XH x.XI x.XJ) (sp__law_classes x) := fun args QD ED h => by
  obtain ⟨C, d, rfl, hd, hC, h⟩ := h
  have g : ∀ E ∈ x.l, gIsX ik [d, .cls E] = some (.d (.bl (decide (C = E)))) := fun E hE => gisx_of hd (K.is C hC E hE)
  refine ⟨rfl, ?_⟩
  unfold rd__law_classes
  walk_at "dlf"
  rw [lk_eq (g x.TM (by simp [Xs.l]))]
  walk_at "dlf"
  rw [lk_eq (g x.SP (by simp [Xs.l]))]
  walk_at "dlf"
  rw [lk_eq (g x.NS (by simp [Xs.l]))]
  walk_at "dlf"
  rw [lk_eq (g x.NK (by simp [Xs.l]))]
  walk_at "dlf"
  rw [lk_eq (g x.XA (by simp [Xs.l]))]
  walk_at "dlf"
  rw [lk_eq (g x.XB (by simp [Xs.l]))]
  walk_at "dlf"
  rw [lk_eq (g x.XC (by simp [Xs.l]))]
  walk_at "dlf"
  rw [lk_eq (g x.XD1 (by simp [Xs.l]))]
  walk_at "dlf"
  rw [lk_eq (g x.XE1 (by simp [Xs.l]))]
  walk_at "dlf"
  rw [lk_eq (g x.XF (by simp [Xs.l]))]
  walk_at "dlf"
  rw [lk_eq (g x.XG (by simp [Xs.l]))]
  walk_at "dlf"
  rw [lk_eq (g x.XH (by simp [Xs.l]))]
  walk_at "dlf"
  rw [lk_eq (g x.XI (by simp [Xs.l]))]
  walk_at "dlf"
  rw [lk_eq (g x.XJ (by simp [Xs.l]))]
  walk_at "dlf"
  rw [lk_eq (g x.NW (by simp [Xs.l]))]
  walk_at "dlf"
  rw [lk_eq (g x.NT (by simp [Xs.l]))]
  walk_at "dlf"
  exact h

end DL.Pot.Er

set_option Elab.async false
set_option maxRecDepth 100000
set_option maxHeartbeats 4000000
/-! S01c. -/
namespace DL.Pot.Er
open DL PySem PySem.Spec PyProof.Rows L2
local macro_rules | `(tactic| walk_at "dl") => `(tactic| simp (config := {decide := false, implicitDefEqProofs := false}) only [e_new0, e_newF, k_nf1, k_nf2, e_newG, k_ng1, k_ng2, e_tryK, k_keep, k_keepD, exc_n, exc_s, is_x0, is_x1, e_fx, k_fx1, e_lm, k_lm0, k_lm1, k_lm2, k_lm3, e_star, k_st1, k_st2, k_st3, frzs_dats, frzs_datL, List.append_nil, e_opX, k_ox0, k_ox1, k_ox2a, k_ox2b, k_ox2c, e_augX, sl_dat, sl_own, k_ax1, k_ax3d, k_ax3o, e_raise, e_callX, k_cx1, k_cx2, k_cx3, k_cx4, e_makeX, k_mx1, k_mx2, k_endX, e_try, k_cls0, k_cls1, pick_t, pick_f, cl_n, cl_s, gone_nx, gone_rt, e_xf, k_xf, e_raiseF, k_rf1, k_rf2, e_dct1, e_odd, k_od0, k_od1, k_od2n, k_od2b, k_od2i, k_od2s, k_od2l, k_od2t, k_od2d, k_tls, e_itRv, k_rv1, k_rv2, e_fmt, strS_s, e_cm, k_cm1, k_cm2, e_makeL, q_cl, e_meth0, k_me1, k_me2, e_mulL, k_ml0, k_ml1, k_ml2, e_mulR, k_mr0, k_mr1, k_mr2, max_3, e_callB, e_makeB, brw_nil, brw_dat, brw_bor, e_aliF, e_ali, k_ali, e_neL, k_nl0, k_nl1, k_nl2, e_own1, k_ow1, k_ow2, k_tlb, k_tln, e_inO, k_io0, k_io1, k_io2, e_callO, k_cf0d, k_cf0b, k_refSl, k_cf1, k_cf2, e_callW, k_cw1, k_cw2, e_itZM, k_zm1, k_zm2l, k_zm2ll, e_ixO, k_oi0, k_oi1, k_oi2, e_prop, k_pr1, k_pr2, e_binO, k_bo0, k_bo1, k_bo2, e_eqO, k_eo0, k_eo1, k_eo2, k_eo3, e_cnt, k_cn0, k_cn1, k_cn2, k_cn3, isLst_l, cntD_i, e_fld, k_fl1, k_fl2, k_fl3, insD_i, e_setF, k_sf1, k_sf2, q_sf, e_make, k_mk1, k_mk2, k_mk3, e_never, e_callRR, k_rr1, k_rr2, k_rr3, k_rr4, e_itEA, k_ea1, k_ea2, e_itT2, k_i1, k_i2, e_m1, k_m1, k_m1b, k_m2, k_m3, k_m4, e_itZ, k_z1, e_scLen, k_sc, k_scQ, compT_nil, compT_cons, k_t1, k_t2, k_t2b, k_t3, e_chain, k_ch, k_ch0, k_ch1, k_ch2, k_ch3, k_ch4, k_ch5, k_ch6, rev_l, rev_f, rev_t, clear_l, lista_s, max_2, min_2, inA_s, ix_s, mulA_si, seqE_nx, seqE_rt, seqE_bk, seqE_ct, loopE_nx, loopE_rt, loopE_bk, loopE_ct, e_seq, e_next, e_break, e_cont, e_retN, e_var, q_var_d, q_var_o, e_c, con_d, con_o, con_b, conS_d, conS_o, own_l, own_d, own_i, z_d, z_n, z_t, z_w, sl_d, sl_o, frz_d, frz_o, frz_b, q_frz_d, q_frz_o, frzs_nil, frzs_cons, k_fzs, k_fz, thin_d, thin_o, thin_b, k_th, thins_nil, thins_cons, k_ths, k_ts, setR_nil, setR_cons, k_e, e_op, k_op1, k_op2, k_op3, k_op4, e_un, k_un1, k_un2, e_nil, e_cons, k_co1, k_co2, conL_nil, conL_cons, k_cl, k_cl2, e_b, k_b1, k_b2, e_tup, k_tup1, k_tup2, e_lst, k_lst1, k_lst2, e_dct0, k_ret, e_call, k_ca1, k_ca2, k_retR, e_callR, k_cr1, k_cr2, k_cr3, e_tr, k_tr1, k_tr2, k_tr3, e_bl, k_bl, e_and, k_and, e_or, k_or, e_not, k_not, e_if, k_if, e_ifS, k_ifS, e_notV, k_nv1, k_nv2, e_andV, k_av1, k_av2, e_orV, k_ov1, k_ov2, bD_bl, e_sl, k_sl1, k_sl2, k_sl3, k_sl4, e_part, k_pt1, k_pt2, e_noP, e_dget, k_ge1, k_ge1b, k_ge2, k_ge3, k_ge4, dctD_d, keyD_i, keyD_s, e_mut, q_mu0, k_mu1, k_mu2, q_mu3, k_mu4, e_put, k_pu1, k_pu2, k_pu3, k_pu4, q_pu4, k_pu5, e_aug, q_au0, k_au1, k_au2, k_au3, e_asg, k_as1, k_as2, e_par, k_pa1, k_pa2, e_unp, k_up1, k_up2, e_hName, e_hNil, e_hCons, k_hc, e_hTup, e_hWt, e_drop, k_dr, e_ret, k_rt_d, k_rt_o, k_rt_b, q_out_o, q_out_d, forL_nil, forL_cons, k_fo2, e_for, k_fo1, k_wh, e_itS, k_it1, k_it2, k_it3, walk_l, walk_f, walk_t, e_itR1, k_r11, k_r12, e_itR2, k_r21, k_r22, e_itE, k_en1, k_en2, k_en3, list_l, list_f, e_lc, k_lc, k_lcQ, compL_nil, compL_cons, k_c1, k_c2, k_c3, k_c4, e_yes, wip_nil, wip_cons, unw_nil, unw_cons, g_int, f_add, f_sub, f_mul, f_div, f_mod, f_pow, f_lt, f_le, f_gt, f_ge, add_i, add_s, add_l, add_t, mul_i, mul_l, mul_t, neg_i, ix_l, ix_t, sl_l, sl_f, sl_t, len_l, len_f, len_t, len_s, abs_i, int_i, lof_l, lof_f, lof_t, tof_l, tof_f, tof_t, dof_t, app_l, ext_t, ext_l, tru_b, tru_i, tru_l, tru_t, tru_n, augN, subN, is_bl, is_non, ixN4_0, ixN4_1, ixN4_2, ixN4_3, lk_some, lk_ite, lk_map, lk_bind, ixOf, endsF_nx, endsF_dat, endsF_own, atI_0, atI_1, atI_2, atI_3, eqA_l0, eqA_tup0, eqA_int, eqA_non, bne_f, bne_t, sizeLine_eq,
  List.cons_append, List.nil_append, List.getElem?_cons_zero, List.getElem?_cons_succ, List.set_cons_zero, List.set_cons_succ, List.length_cons, List.length_nil, List.replicate, List.take_succ_cons, List.take_zero, List.not_mem_nil, List.mem_cons, List.map_cons, List.map_nil, if_false, if_true, Option.map_some, Option.bind_some, Option.getD_some, Nat.reduceAdd, Nat.reduceSub, Nat.reduceLeDiff, Nat.reduceEqDiff, Nat.succ_ne_zero, Nat.zero_ne_one, Nat.one_ne_zero, List.isEmpty_nil, List.isEmpty_cons, List.length_map, List.isEmpty_map, beq_iff_eq, Bool.not_eq_true, reduceCtorEq, or_false, or_true, false_or, true_or, and_true, true_and, List.cons.injEq, Option.some.injEq, Sl.own.injEq, Own.lst.injEq, exists_eq', not_false_eq_true, forall_const, forall_eq, forall_eq_or_imp, decide_eq_true_eq, Bool.not_true, Bool.not_false, Bool.false_eq_true, ite_self])
local macro_rules | `(tactic| walk_at "dlf") => `(tactic| simp (config := {decide := false, implicitDefEqProofs := false}) only [e_new0, e_newF, k_nf1, k_nf2, e_newG, k_ng1, k_ng2, e_tryK, k_keep, k_keepD, exc_n, exc_s, is_x0, is_x1, e_fx, k_fx1, e_lm, k_lm0, k_lm1, k_lm2, k_lm3, e_star, k_st1, k_st2, k_st3, frzs_dats, frzs_datL, List.append_nil, e_opX, k_ox0, k_ox1, k_ox2a, k_ox2b, k_ox2c, e_augX, sl_dat, sl_own, k_ax1, k_ax3d, k_ax3o, e_raise, e_callX, k_cx1, k_cx2, k_cx3, k_cx4, e_makeX, k_mx1, k_mx2, k_endX, e_try, k_cls0, k_cls1, pick_t, pick_f, cl_n, cl_s, gone_nx, gone_rt, e_xf, k_xf, e_raiseF, k_rf1, k_rf2, e_dct1, e_odd, k_od0, k_od1, k_od2n, k_od2b, k_od2i, k_od2s, k_od2l, k_od2t, k_od2d, k_tls, e_itRv, k_rv1, k_rv2, e_fmt, strS_s, e_cm, k_cm1, k_cm2, e_makeL, q_cl, e_meth0, k_me1, k_me2, e_mulL, k_ml0, k_ml1, k_ml2, e_mulR, k_mr0, k_mr1, k_mr2, max_3, e_callB, e_makeB, brw_nil, brw_dat, brw_bor, e_aliF, e_ali, k_ali, e_neL, k_nl0, k_nl1, k_nl2, e_own1, k_ow1, k_ow2, k_tlb, k_tln, e_inO, k_io0, k_io1, k_io2, e_callO, k_cf0d, k_cf0b, k_refSl, k_cf1, k_cf2, e_callW, k_cw1, k_cw2, e_itZM, k_zm1, k_zm2l, k_zm2ll, e_ixO, k_oi0, k_oi1, k_oi2, e_prop, k_pr1, k_pr2, e_binO, k_bo0, k_bo1, k_bo2, e_eqO, k_eo0, k_eo1, k_eo2, k_eo3, e_cnt, k_cn0, k_cn1, k_cn2, k_cn3, isLst_l, cntD_i, e_fld, k_fl1, k_fl2, k_fl3, insD_i, e_setF, k_sf1, k_sf2, q_sf, e_make, k_mk1, k_mk2, k_mk3, e_never, e_callRR, k_rr1, k_rr2, k_rr3, k_rr4, e_itEA, k_ea1, k_ea2, e_itT2, k_i1, k_i2, e_m1, k_m1, k_m1b, k_m2, k_m3, k_m4, e_itZ, k_z1, e_scLen, k_sc, k_scQ, compT_nil, compT_cons, k_t1, k_t2, k_t2b, k_t3, e_chain, k_ch, k_ch0, k_ch1, k_ch2, k_ch3, k_ch4, k_ch5, k_ch6, rev_l, rev_f, rev_t, clear_l, lista_s, max_2, min_2, inA_s, ix_s, mulA_si, seqE_nx, seqE_rt, seqE_bk, seqE_ct, loopE_nx, loopE_rt, loopE_bk, loopE_ct, e_seq, e_next, e_break, e_cont, e_retN, e_var, q_var_d, q_var_o, e_c, con_d, con_o, con_b, conS_d, conS_o, own_l, own_d, own_i, z_d, z_n, z_t, z_w, sl_d, sl_o, frz_d, frz_o, frz_b, q_frz_d, q_frz_o, frzs_nil, frzs_cons, k_fzs, k_fz, thin_d, thin_o, thin_b, k_th, thins_nil, thins_cons, k_ths, k_ts, setR_nil, setR_cons, k_e, e_op, k_op1, k_op2, k_op3, k_op4, e_un, k_un1, k_un2, e_nil, e_cons, k_co1, k_co2, conL_nil, conL_cons, k_cl, k_cl2, e_b, k_b1, k_b2, e_tup, k_tup1, k_tup2, e_lst, k_lst1, k_lst2, e_dct0, k_ret, e_call, k_ca1, k_ca2, k_retR, e_callR, k_cr1, k_cr2, k_cr3, e_tr, k_tr1, k_tr2, k_tr3, e_bl, k_bl, e_and, k_and, e_or, k_or, e_not, k_not, e_if, k_if, e_ifS, k_ifS, e_notV, k_nv1, k_nv2, e_andV, k_av1, k_av2, e_orV, k_ov1, k_ov2, bD_bl, e_sl, k_sl1, k_sl2, k_sl3, k_sl4, e_part, k_pt1, k_pt2, e_noP, e_dget, k_ge1, k_ge1b, k_ge2, k_ge3, k_ge4, dctD_d, keyD_i, keyD_s, e_mut, q_mu0, k_mu1, k_mu2, q_mu3, k_mu4, e_put, k_pu1, k_pu2, k_pu3, k_pu4, q_pu4, k_pu5, e_aug, q_au0, k_au1, k_au2, k_au3, e_asg, k_as1, k_as2, e_par, k_pa1, k_pa2, e_unp, k_up1, k_up2, e_hName, e_hNil, e_hCons, k_hc, e_hTup, e_hWt, e_drop, k_dr, e_ret, k_rt_d, k_rt_o, k_rt_b, q_out_o, q_out_d, forL_nil, k_fo2, e_for, k_fo1, k_wh, e_itS, k_it1, k_it2, k_it3, walk_l, walk_f, walk_t, e_itR1, k_r11, k_r12, e_itR2, k_r21, k_r22, e_itE, k_en1, k_en2, k_en3, list_l, list_f, e_lc, k_lc, k_lcQ, compL_nil, k_c1, k_c2, k_c3, k_c4, e_yes, wip_nil, wip_cons, unw_nil, unw_cons, g_int, f_add, f_sub, f_mul, f_div, f_mod, f_pow, f_lt, f_le, f_gt, f_ge, add_i, add_s, add_l, add_t, mul_i, mul_l, mul_t, neg_i, ix_l, ix_t, sl_l, sl_f, sl_t, len_l, len_f, len_t, len_s, abs_i, int_i, lof_l, lof_f, lof_t, tof_l, tof_f, tof_t, dof_t, app_l, ext_t, ext_l, tru_b, tru_i, tru_l, tru_t, tru_n, augN, subN, is_bl, is_non, ixN4_0, ixN4_1, ixN4_2, ixN4_3, lk_some, lk_ite, lk_map, lk_bind, ixOf, endsF_nx, endsF_dat, endsF_own, atI_0, atI_1, atI_2, atI_3, eqA_l0, eqA_tup0, eqA_int, eqA_non, bne_f, bne_t, sizeLine_eq,
  List.cons_append, List.nil_append, List.getElem?_cons_zero, List.getElem?_cons_succ, List.set_cons_zero, List.set_cons_succ, List.length_cons, List.length_nil, List.replicate, List.take_succ_cons, List.take_zero, List.not_mem_nil, List.mem_cons, List.map_cons, List.map_nil, if_false, if_true, Option.map_some, Option.bind_some, Option.getD_some, Nat.reduceAdd, Nat.reduceSub, Nat.reduceLeDiff, Nat.reduceEqDiff, Nat.succ_ne_zero, Nat.zero_ne_one, Nat.one_ne_zero, List.isEmpty_nil, List.isEmpty_cons, List.length_map, List.isEmpty_map, beq_iff_eq, Bool.not_eq_true, reduceCtorEq, or_false, or_true, false_or, true_or, and_true, true_and, List.cons.injEq, Option.some.injEq, Sl.own.injEq, Own.lst.injEq, exists_eq', not_false_eq_true, forall_const, forall_eq, forall_eq_or_imp, decide_eq_true_eq, Bool.not_true, Bool.not_false, Bool.false_eq_true, ite_self])
local macro_rules | `(tactic| walk_at "len") => `(tactic| first | omega | (simp only [List.length_append, List.length_cons, List.length_nil, List.length_map, List.length_singleton, List.length_replicate, List.length_range, List.length_take, List.length_drop, List.length_reverse]; omega) | (simp; omega) | (simp; done))
/-! ### words -/
theorem sjoin_len : ∀ ys : List Str, (Str.join "" ys).length ≤ (ys.map (·.length)).sum
  | [] => Nat.zero_le _
  | [y] => by
    show y.length ≤ y.length + 0
    omega
  | y :: z :: ys => by
    have ih := sjoin_len (z :: ys)
    show (y ++ ("" : Str) ++ Str.join "" (z :: ys)).length ≤ y.length + ((z :: ys).map (·.length)).sum
    rw [Str.length_append, Str.length_append]
    have : (("" : Str)).length = 0 := by decide
    omega
theorem sum_le : ∀ ys : List Str, (∀ y ∈ ys, y.length ≤ 1) → (ys.map (·.length)).sum ≤ ys.length
  | [], _ => Nat.le_refl _
  | y :: ys, h => by
    have := sum_le ys fun z hz => h z (List.mem_cons_of_mem _ hz)
    have := h y List.mem_cons_self
    rw [List.map_cons, List.sum_cons, List.length_cons]; omega
theorem join_any {ys : List Str} (h : ∀ y ∈ ys, y.length ≤ 1) (hl : ys.length ≤ 100) : ∃ z : Str, gJoin "" (.lst (ys.map .str)) = some (.d (.str z)) ∧ z.length ≤ 100 := by
  refine ⟨Txt.join "" ys, ?_, ?_⟩
  · show (strsD (ys.map .str)).bind _ = _
    rw [strsD_map, Option.bind_some, if_pos]
    have := sum_le ys h
    have : (Str.ofString "").length = 0 := by decide
    rw [this]; omega
  · rw [show Txt.join "" ys = Str.join "" ys from PySem.StrLaws.glued_eq_join _ _]
    have := sjoin_len ys
    have := sum_le ys h
    omega
/-- a row of texts of at most one sign -/
abbrev ones (ys : List Str) : Prop := ∀ y ∈ ys, y.length ≤ 1
def rd__law_words (ks : List Nat) (sp__law_pick : DSp) (sp__law_below : DSp) : SD :=
  (wSeq (wAsg ks 1 (wC (.str "abcdefghijklmnopqrstuvwxyz0123456789")))
  (wSeq (wAsg ks 2 (wLst ks (wCons (wC (.str "")) (wCons (wC (.str "a")) (wCons (wC (.str "z9")) (wCons (wC (.str "9")) (wCons (wOp gMulA (wC (.str "a")) (wC (.int 8))) (wCons (wOp gMulA (wC (.str "a")) (wC (.int 9))) (wCons (wC (.str "A")) (wCons (wC (.str "aB")) (wCons (wC (.str "a_b")) (wCons (wC (.str " a")) (wCons (wC (.str "a ")) (wCons (wC (.str "a\n")) (wCons (wC (.str "t")) (wCons (wC (.str "_")) (wCons (wC (.str "a.b")) (wCons (wC (.str "0a")) wNil))))))))))))))))))
  (wSeq (wFor (wItR1 (wCons (wC (.int 10)) wNil)) (hName ks 3) (wSeq (wAsg ks 5 (wLc ks (wItR1 (wCons (wOp gAdd (wC (.int 1)) (wCallR ks sp__law_below (wCons (wVar 0) (wCons (wC (.int 9)) wNil)))) wNil)) (hName ks 4) wYes (wCallR ks sp__law_pick (wCons (wVar 0) (wCons (wB gListA (wCons (wVar 1) wNil)) wNil))) [4]))
  (wSeq (wDrop (wMut ks 2 gAppend (wCons (wM1 gJoin (wC (.str "")) (wVar 5)) wNil)))
  (wSeq (wAsg ks 4 (wCallR ks sp__law_below (wCons (wVar 0) (wCons (wB gLen (wCons (wVar 5) wNil)) wNil))))
  (wSeq (wAsg ks 6 (wOp gAdd (wB gListA (wCons (wC (.str "!#$&'()*+,-./:;<=>?\x40[\\]^_`{|}~ ABCDEFGHIJKLMNOPQRSTUVWXYZ")) wNil)) (wLst ks (wCons (wC (.str "\"")) wNil))))
  (wSeq (wAsg ks 6 (wCallR ks sp__law_pick (wCons (wVar 0) (wCons (wOp gAdd (wVar 6) (wLst ks (wCons (wC (.str "\n")) (wCons (wC (.str "\t")) (wCons (wC (.str "")) wNil))))) wNil))))
  (wDrop (wMut ks 2 gAppend (wCons (wM1 gJoin (wC (.str "")) (wOp gAdd (wOp gAdd (wSl gSl (wVar 5) wNoP (wPart (wVar 4))) (wLst ks (wCons (wVar 6) wNil))) (wSl gSl (wVar 5) (wPart (wOp gAdd (wVar 4) (wC (.int 1)))) wNoP))) wNil)))))))))
  (wRet ks (wVar 2)))))
abbrev SGN' : Str := "abcdefghijklmnopqrstuvwxyz0123456789"
theorem signs_one {x : Str} {d : D} (h : d ∈ signsD x) : ∃ y : Str, d = .str y ∧ y.length ≤ 1 := by
  obtain ⟨c, _, rfl⟩ := List.mem_map.mp h
  exact ⟨_, rfl, Nat.le_refl _⟩
def sp__law_words : DSp := fun args Q _ => ∃ (n : Nat) (o : Own), args = [.own o] ∧ Dk (n + 200) o ∧ ∀ (l : List Str) (o' : Own), (∀ x ∈ l, x.length ≤ 1000) → l.length ≤ 100 → Dk n o' → Q (.own (.lst (l.map .str))) [.own o']
theorem sw_comp {n : Nat} {s2 s3 s5 s6 : Sl} {QI : List D → Rho → Prop} : ∀ (ds : List D) (o : Own) (ys : List Str), Dk (n + ds.length) o → ys.length + ds.length ≤ 100 → ones ys →
    (∀ (o' : Own) (ys' : List Str), Dk n o' → ys'.length = ys.length + ds.length → ones ys' → QI (ys'.map .str) [.own o', .dat (.str SGN'), s2, s3, .no, s5, s6]) →
    compL [0] (hName [0] 4) wYes (wCallR [0] sp__law_pick (wCons (wVar 0) (wCons (wB gListA (wCons (wVar 1) wNil)) wNil))) [4] ds (ys.map .str) [.own o, .dat (.str SGN'), s2, s3, .no, s5, s6] QI
  | [], o, ys, hd, hl, h1, q => q o ys hd rfl h1
  | d :: ds, o, ys, hd, hl, h1, q => by
    rw [List.length_cons] at hd hl q
    rw [compL_cons]
    walk_at "dlf"
    refine ⟨by decide, n + ds.length, o, _, hd.mono (by omega), by decide, by decide, .inl ⟨rfl, fun x o' hx hd' => ?_⟩⟩
    obtain ⟨y, rfl, hy⟩ := signs_one hx
    walk_at "dlf"
    have e : ys.map D.str ++ [D.str y] = (ys ++ [y]).map D.str := by rw [List.map_append]; rfl
    rw [e]
    refine ⟨by omega, sw_comp ds o' (ys ++ [y]) hd' (by rw [List.length_append, List.length_singleton]; omega) (fun z hz => ?_) fun o' ys' a1 a2 a3 => q o' ys' a1 (by rw [a2, List.length_append, List.length_singleton]; omega) a3⟩
    rcases List.mem_append.mp hz with h | h
    · exact h1 z h
    · rw [List.mem_singleton.mp h]; exact hy
abbrev swB : SD := (wSeq (wAsg [0] 5 (wLc [0] (wItR1 (wCons (wOp gAdd (wC (.int 1)) (wCallR [0] sp__law_below (wCons (wVar 0) (wCons (wC (.int 9)) wNil)))) wNil)) (hName [0] 4) wYes (wCallR [0] sp__law_pick (wCons (wVar 0) (wCons (wB gListA (wCons (wVar 1) wNil)) wNil))) [4]))
  (wSeq (wDrop (wMut [0] 2 gAppend (wCons (wM1 gJoin (wC (.str "")) (wVar 5)) wNil)))
  (wSeq (wAsg [0] 4 (wCallR [0] sp__law_below (wCons (wVar 0) (wCons (wB gLen (wCons (wVar 5) wNil)) wNil))))
  (wSeq (wAsg [0] 6 (wOp gAdd (wB gListA (wCons (wC (.str "!#$&'()*+,-./:;<=>?\x40[\\]^_`{|}~ ABCDEFGHIJKLMNOPQRSTUVWXYZ")) wNil)) (wLst [0] (wCons (wC (.str "\"")) wNil))))
  (wSeq (wAsg [0] 6 (wCallR [0] sp__law_pick (wCons (wVar 0) (wCons (wOp gAdd (wVar 6) (wLst [0] (wCons (wC (.str "\n")) (wCons (wC (.str "\t")) (wCons (wC (.str "")) wNil))))) wNil))))
  (wDrop (wMut [0] 2 gAppend (wCons (wM1 gJoin (wC (.str "")) (wOp gAdd (wOp gAdd (wSl gSl (wVar 5) wNoP (wPart (wVar 4))) (wLst [0] (wCons (wVar 6) wNil))) (wSl gSl (wVar 5) (wPart (wOp gAdd (wVar 4) (wC (.int 1)))) wNoP))) wNil))))))))
theorem sw_loop {n : Nat} {DD : EndsD} (hN : ∀ (o : Own) (fs : List Str) (s3 s4 s5 s6 : Sl), (∀ x ∈ fs, x.length ≤ 1000) → fs.length ≤ 100 → Dk n o → DD.nx [.own o, .dat (.str SGN'), .own (.lst (fs.map .str)), s3, s4, s5, s6]) :
    ∀ (ds : List D) (o : Own) (fs : List Str) (s3 s4 s5 s6 : Sl), (∀ o, some s4 ≠ some (Sl.own o)) → (∀ x ∈ fs, x.length ≤ 1000) → fs.length + 2 * ds.length ≤ 100 → Dk (n + 15 * ds.length) o →
    forL (hName [0] 3) swB DD ds [.own o, .dat (.str SGN'), .own (.lst (fs.map .str)), s3, s4, s5, s6]
  | [], o, fs, s3, s4, s5, s6, _, hf, hl, hd => hN o fs s3 s4 s5 s6 hf (by rw [List.length_nil] at hl; omega) (hd.mono (by omega))
  | d :: ds, o, fs, s3, s4, s5, s6, h4, hf, hl, hd => by
    have ih := sw_loop hN ds
    rw [List.length_cons] at hl hd
    rw [forL_cons]
    unfold swB
    walk_at "dlf"
    refine ⟨n + 15 * ds.length + 14, o, _, rfl, hd.mono (by omega), by decide, by decide, fun r o1 r0 r1 hd1 => ?_⟩
    walk_at "dlf"
    have lr : (rangeD (1 + r)).length = (1 + r).toNat := by unfold rangeD; rw [List.length_map, List.length_range]
    refine ⟨by omega, by omega, h4, ?_⟩
    refine sw_comp (n := n + 15 * ds.length + 4) (rangeD (1 + r)) o1 [] (hd1.mono (by rw [lr]; omega)) (by rw [lr, List.length_nil]; omega) (fun y hy => nomatch hy) fun o2 ys hd2 hy1 hy2 => ?_
    rw [lr, List.length_nil] at hy1
    obtain ⟨z, ez, hz⟩ := join_any hy2 (by omega)
    walk_at "dlf"
    rw [lk_eq ez]
    walk_at "dlf"
    refine ⟨by walk_at "len", ?_⟩
    refine ⟨n + 15 * ds.length + 3, o2, _, rfl, hd2.mono (by omega), by walk_at "len", by walk_at "len", fun p o3 p0 p1 hd3 => ?_⟩
    obtain ⟨p, rfl⟩ := Int.eq_ofNat_of_zero_le p0
    walk_at "dlf"
    refine ⟨by decide +kernel, by decide +kernel, by decide +kernel, n + 15 * ds.length + 2, o3, _, hd3.mono (by omega), by simp, by decide +kernel, .inl ⟨rfl, fun x o4 hx hd4 => ?_⟩⟩
    obtain ⟨y, rfl, hy⟩ : ∃ y : Str, x = .str y ∧ y.length ≤ 1 := by
      rcases List.mem_append.mp hx with hx | hx
      · rcases List.mem_append.mp hx with hx | hx
        · exact signs_one hx
        · rw [List.mem_singleton.mp hx]; exact ⟨_, rfl, by decide +kernel⟩
      · simp only [List.mem_cons, List.not_mem_nil, or_false] at hx
        rcases hx with rfl | rfl | rfl <;> exact ⟨_, rfl, by decide +kernel⟩
    walk_at "dlf"
    have e1 : cutD (ys.map D.str) none (some (p : Int)) = (ys.take p).map D.str := by rw [List.map_take]; exact cutD_to p
    have e2 : cutD (ys.map D.str) (some ((p : Int) + 1)) none = (ys.drop (p + 1)).map D.str := by rw [List.map_drop]; exact cutD_from (p + 1)
    have e3 : (ys.take p).map D.str ++ [D.str y] ++ (ys.drop (p + 1)).map D.str = (ys.take p ++ [y] ++ ys.drop (p + 1)).map D.str := by rw [List.map_append, List.map_append]; rfl
    rw [e1, e2, e3]
    obtain ⟨z2, ez2, hz2⟩ := join_any (ys := ys.take p ++ [y] ++ ys.drop (p + 1)) (fun v hv => by
      rcases List.mem_append.mp hv with hv | hv
      · rcases List.mem_append.mp hv with hv | hv
        · exact hy2 v (List.mem_of_mem_take hv)
        · rw [List.mem_singleton.mp hv]; exact hy
      · exact hy2 v (List.mem_of_mem_drop hv)) (by walk_at "len")
    rw [lk_eq ez2]
    walk_at "dlf"
    have hy3 : ys.length ≤ 9 := by omega
    refine ⟨by walk_at "len", by walk_at "len", by walk_at "len", ?_⟩
    have e4 : fs.map D.str ++ [D.str z] ++ [D.str z2] = (fs ++ [z, z2]).map D.str := by rw [List.map_append, List.append_assoc]; rfl
    rw [e4]
    refine ih o4 _ _ _ _ _ (fun o z => nomatch z) (fun v hv => ?_) (by walk_at "len") (hd4.mono (by omega))
    rcases List.mem_append.mp hv with hv | hv
    · exact hf v hv
    · simp only [List.mem_cons, List.not_mem_nil, or_false] at hv
      rcases hv with rfl | rfl <;> omega
theorem pl__law_words : PL 7 1 (fun ks => rd__law_words ks sp__law_pick sp__law_below) sp__law_words := fun args QD ED h => by
  obtain ⟨n, o, rfl, hd, h⟩ := h
  refine ⟨rfl, ?_⟩
  unfold rd__law_words
  walk_at "dlf"
  refine ⟨⟨by decide, by decide, by decide⟩, ⟨by decide, by decide, by decide⟩, by decide, by decide, ?_⟩
  have l10 : (rangeD 10).length = 10 := by decide
  refine sw_loop (n := n + 50) (fun o fs s3 s4 s5 s6 hf hl hd => ?_) (rangeD 10) o ["", "a", "z9", "9", Txt.mul "a" 8, Txt.mul "a" 9, "A", "aB", "a_b", " a", "a ", "a\n", "t", "_", "a.b", "0a"] _ _ _ _ (fun o z => nomatch z) (fun x hx => ?_) (by rw [l10]; decide) (hd.mono (by rw [l10]; omega))
  · walk_at "dlf"
    exact h fs o hf hl (hd.mono (by omega))
  · simp only [List.mem_cons, List.not_mem_nil, or_false] at hx
    rcases hx with rfl | rfl | rfl | rfl | rfl | rfl | rfl | rfl | rfl | rfl | rfl | rfl | rfl | rfl | rfl | rfl <;> decide +kernel

end DL.Pot.Er

set_option Elab.async false
set_option maxRecDepth 100000
set_option maxHeartbeats 4000000
/-! S01d. -/
namespace DL.Pot.Er
open DL PySem PySem.Spec PyProof.Rows L2
local macro_rules | `(tactic| walk_at "dl") => `(tactic| simp (config := {decide := false, implicitDefEqProofs := false}) only [e_new0, e_newF, k_nf1, k_nf2, e_newG, k_ng1, k_ng2, e_tryK, k_keep, k_keepD, exc_n, exc_s, is_x0, is_x1, e_fx, k_fx1, e_lm, k_lm0, k_lm1, k_lm2, k_lm3, e_star, k_st1, k_st2, k_st3, frzs_dats, frzs_datL, List.append_nil, e_opX, k_ox0, k_ox1, k_ox2a, k_ox2b, k_ox2c, e_augX, sl_dat, sl_own, k_ax1, k_ax3d, k_ax3o, e_raise, e_callX, k_cx1, k_cx2, k_cx3, k_cx4, e_makeX, k_mx1, k_mx2, k_endX, e_try, k_cls0, k_cls1, pick_t, pick_f, cl_n, cl_s, gone_nx, gone_rt, e_xf, k_xf, e_raiseF, k_rf1, k_rf2, e_dct1, e_odd, k_od0, k_od1, k_od2n, k_od2b, k_od2i, k_od2s, k_od2l, k_od2t, k_od2d, k_tls, e_itRv, k_rv1, k_rv2, e_fmt, strS_s, e_cm, k_cm1, k_cm2, e_makeL, q_cl, e_meth0, k_me1, k_me2, e_mulL, k_ml0, k_ml1, k_ml2, e_mulR, k_mr0, k_mr1, k_mr2, max_3, e_callB, e_makeB, brw_nil, brw_dat, brw_bor, e_aliF, e_ali, k_ali, e_neL, k_nl0, k_nl1, k_nl2, e_own1, k_ow1, k_ow2, k_tlb, k_tln, e_inO, k_io0, k_io1, k_io2, e_callO, k_cf0d, k_cf0b, k_refSl, k_cf1, k_cf2, e_callW, k_cw1, k_cw2, e_itZM, k_zm1, k_zm2l, k_zm2ll, e_ixO, k_oi0, k_oi1, k_oi2, e_prop, k_pr1, k_pr2, e_binO, k_bo0, k_bo1, k_bo2, e_eqO, k_eo0, k_eo1, k_eo2, k_eo3, e_cnt, k_cn0, k_cn1, k_cn2, k_cn3, isLst_l, cntD_i, e_fld, k_fl1, k_fl2, k_fl3, insD_i, e_setF, k_sf1, k_sf2, q_sf, e_make, k_mk1, k_mk2, k_mk3, e_never, e_callRR, k_rr1, k_rr2, k_rr3, k_rr4, e_itEA, k_ea1, k_ea2, e_itT2, k_i1, k_i2, e_m1, k_m1, k_m1b, k_m2, k_m3, k_m4, e_itZ, k_z1, e_scLen, k_sc, k_scQ, compT_nil, compT_cons, k_t1, k_t2, k_t2b, k_t3, e_chain, k_ch, k_ch0, k_ch1, k_ch2, k_ch3, k_ch4, k_ch5, k_ch6, rev_l, rev_f, rev_t, clear_l, lista_s, max_2, min_2, inA_s, ix_s, mulA_si, seqE_nx, seqE_rt, seqE_bk, seqE_ct, loopE_nx, loopE_rt, loopE_bk, loopE_ct, e_seq, e_next, e_break, e_cont, e_retN, e_var, q_var_d, q_var_o, e_c, con_d, con_o, con_b, conS_d, conS_o, own_l, own_d, own_i, z_d, z_n, z_t, z_w, sl_d, sl_o, frz_d, frz_o, frz_b, q_frz_d, q_frz_o, frzs_nil, frzs_cons, k_fzs, k_fz, thin_d, thin_o, thin_b, k_th, thins_nil, thins_cons, k_ths, k_ts, setR_nil, setR_cons, k_e, e_op, k_op1, k_op2, k_op3, k_op4, e_un, k_un1, k_un2, e_nil, e_cons, k_co1, k_co2, conL_nil, conL_cons, k_cl, k_cl2, e_b, k_b1, k_b2, e_tup, k_tup1, k_tup2, e_lst, k_lst1, k_lst2, e_dct0, k_ret, e_call, k_ca1, k_ca2, k_retR, e_callR, k_cr1, k_cr2, k_cr3, e_tr, k_tr1, k_tr2, k_tr3, e_bl, k_bl, e_and, k_and, e_or, k_or, e_not, k_not, e_if, k_if, e_ifS, k_ifS, e_notV, k_nv1, k_nv2, e_andV, k_av1, k_av2, e_orV, k_ov1, k_ov2, bD_bl, e_sl, k_sl1, k_sl2, k_sl3, k_sl4, e_part, k_pt1, k_pt2, e_noP, e_dget, k_ge1, k_ge1b, k_ge2, k_ge3, k_ge4, dctD_d, keyD_i, keyD_s, e_mut, q_mu0, k_mu1, k_mu2, q_mu3, k_mu4, e_put, k_pu1, k_pu2, k_pu3, k_pu4, q_pu4, k_pu5, e_aug, q_au0, k_au1, k_au2, k_au3, e_asg, k_as1, k_as2, e_par, k_pa1, k_pa2, e_unp, k_up1, k_up2, e_hName, e_hNil, e_hCons, k_hc, e_hTup, e_hWt, e_drop, k_dr, e_ret, k_rt_d, k_rt_o, k_rt_b, q_out_o, q_out_d, forL_nil, forL_cons, k_fo2, e_for, k_fo1, k_wh, e_itS, k_it1, k_it2, k_it3, walk_l, walk_f, walk_t, e_itR1, k_r11, k_r12, e_itR2, k_r21, k_r22, e_itE, k_en1, k_en2, k_en3, list_l, list_f, e_lc, k_lc, k_lcQ, compL_nil, compL_cons, k_c1, k_c2, k_c3, k_c4, e_yes, wip_nil, wip_cons, unw_nil, unw_cons, g_int, f_add, f_sub, f_mul, f_div, f_mod, f_pow, f_lt, f_le, f_gt, f_ge, add_i, add_s, add_l, add_t, mul_i, mul_l, mul_t, neg_i, ix_l, ix_t, sl_l, sl_f, sl_t, len_l, len_f, len_t, len_s, abs_i, int_i, lof_l, lof_f, lof_t, tof_l, tof_f, tof_t, dof_t, app_l, ext_t, ext_l, tru_b, tru_i, tru_l, tru_t, tru_n, augN, subN, is_bl, is_non, ixN4_0, ixN4_1, ixN4_2, ixN4_3, lk_some, lk_ite, lk_map, lk_bind, ixOf, endsF_nx, endsF_dat, endsF_own, atI_0, atI_1, atI_2, atI_3, eqA_l0, eqA_tup0, eqA_int, eqA_non, bne_f, bne_t, sizeLine_eq,
  List.cons_append, List.nil_append, List.getElem?_cons_zero, List.getElem?_cons_succ, List.set_cons_zero, List.set_cons_succ, List.length_cons, List.length_nil, List.replicate, List.take_succ_cons, List.take_zero, List.not_mem_nil, List.mem_cons, List.map_cons, List.map_nil, if_false, if_true, Option.map_some, Option.bind_some, Option.getD_some, Nat.reduceAdd, Nat.reduceSub, Nat.reduceLeDiff, Nat.reduceEqDiff, Nat.succ_ne_zero, Nat.zero_ne_one, Nat.one_ne_zero, List.isEmpty_nil, List.isEmpty_cons, List.length_map, List.isEmpty_map, beq_iff_eq, Bool.not_eq_true, reduceCtorEq, or_false, or_true, false_or, true_or, and_true, true_and, List.cons.injEq, Option.some.injEq, Sl.own.injEq, Own.lst.injEq, exists_eq', not_false_eq_true, forall_const, forall_eq, forall_eq_or_imp, decide_eq_true_eq, Bool.not_true, Bool.not_false, Bool.false_eq_true, ite_self])
local macro_rules | `(tactic| walk_at "dlf") => `(tactic| simp (config := {decide := false, implicitDefEqProofs := false}) only [e_new0, e_newF, k_nf1, k_nf2, e_newG, k_ng1, k_ng2, e_tryK, k_keep, k_keepD, exc_n, exc_s, is_x0, is_x1, e_fx, k_fx1, e_lm, k_lm0, k_lm1, k_lm2, k_lm3, e_star, k_st1, k_st2, k_st3, frzs_dats, frzs_datL, List.append_nil, e_opX, k_ox0, k_ox1, k_ox2a, k_ox2b, k_ox2c, e_augX, sl_dat, sl_own, k_ax1, k_ax3d, k_ax3o, e_raise, e_callX, k_cx1, k_cx2, k_cx3, k_cx4, e_makeX, k_mx1, k_mx2, k_endX, e_try, k_cls0, k_cls1, pick_t, pick_f, cl_n, cl_s, gone_nx, gone_rt, e_xf, k_xf, e_raiseF, k_rf1, k_rf2, e_dct1, e_odd, k_od0, k_od1, k_od2n, k_od2b, k_od2i, k_od2s, k_od2l, k_od2t, k_od2d, k_tls, e_itRv, k_rv1, k_rv2, e_fmt, strS_s, e_cm, k_cm1, k_cm2, e_makeL, q_cl, e_meth0, k_me1, k_me2, e_mulL, k_ml0, k_ml1, k_ml2, e_mulR, k_mr0, k_mr1, k_mr2, max_3, e_callB, e_makeB, brw_nil, brw_dat, brw_bor, e_aliF, e_ali, k_ali, e_neL, k_nl0, k_nl1, k_nl2, e_own1, k_ow1, k_ow2, k_tlb, k_tln, e_inO, k_io0, k_io1, k_io2, e_callO, k_cf0d, k_cf0b, k_refSl, k_cf1, k_cf2, e_callW, k_cw1, k_cw2, e_itZM, k_zm1, k_zm2l, k_zm2ll, e_ixO, k_oi0, k_oi1, k_oi2, e_prop, k_pr1, k_pr2, e_binO, k_bo0, k_bo1, k_bo2, e_eqO, k_eo0, k_eo1, k_eo2, k_eo3, e_cnt, k_cn0, k_cn1, k_cn2, k_cn3, isLst_l, cntD_i, e_fld, k_fl1, k_fl2, k_fl3, insD_i, e_setF, k_sf1, k_sf2, q_sf, e_make, k_mk1, k_mk2, k_mk3, e_never, e_callRR, k_rr1, k_rr2, k_rr3, k_rr4, e_itEA, k_ea1, k_ea2, e_itT2, k_i1, k_i2, e_m1, k_m1, k_m1b, k_m2, k_m3, k_m4, e_itZ, k_z1, e_scLen, k_sc, k_scQ, compT_nil, compT_cons, k_t1, k_t2, k_t2b, k_t3, e_chain, k_ch, k_ch0, k_ch1, k_ch2, k_ch3, k_ch4, k_ch5, k_ch6, rev_l, rev_f, rev_t, clear_l, lista_s, max_2, min_2, inA_s, ix_s, mulA_si, seqE_nx, seqE_rt, seqE_bk, seqE_ct, loopE_nx, loopE_rt, loopE_bk, loopE_ct, e_seq, e_next, e_break, e_cont, e_retN, e_var, q_var_d, q_var_o, e_c, con_d, con_o, con_b, conS_d, conS_o, own_l, own_d, own_i, z_d, z_n, z_t, z_w, sl_d, sl_o, frz_d, frz_o, frz_b, q_frz_d, q_frz_o, frzs_nil, frzs_cons, k_fzs, k_fz, thin_d, thin_o, thin_b, k_th, thins_nil, thins_cons, k_ths, k_ts, setR_nil, setR_cons, k_e, e_op, k_op1, k_op2, k_op3, k_op4, e_un, k_un1, k_un2, e_nil, e_cons, k_co1, k_co2, conL_nil, conL_cons, k_cl, k_cl2, e_b, k_b1, k_b2, e_tup, k_tup1, k_tup2, e_lst, k_lst1, k_lst2, e_dct0, k_ret, e_call, k_ca1, k_ca2, k_retR, e_callR, k_cr1, k_cr2, k_cr3, e_tr, k_tr1, k_tr2, k_tr3, e_bl, k_bl, e_and, k_and, e_or, k_or, e_not, k_not, e_if, k_if, e_ifS, k_ifS, e_notV, k_nv1, k_nv2, e_andV, k_av1, k_av2, e_orV, k_ov1, k_ov2, bD_bl, e_sl, k_sl1, k_sl2, k_sl3, k_sl4, e_part, k_pt1, k_pt2, e_noP, e_dget, k_ge1, k_ge1b, k_ge2, k_ge3, k_ge4, dctD_d, keyD_i, keyD_s, e_mut, q_mu0, k_mu1, k_mu2, q_mu3, k_mu4, e_put, k_pu1, k_pu2, k_pu3, k_pu4, q_pu4, k_pu5, e_aug, q_au0, k_au1, k_au2, k_au3, e_asg, k_as1, k_as2, e_par, k_pa1, k_pa2, e_unp, k_up1, k_up2, e_hName, e_hNil, e_hCons, k_hc, e_hTup, e_hWt, e_drop, k_dr, e_ret, k_rt_d, k_rt_o, k_rt_b, q_out_o, q_out_d, forL_nil, k_fo2, e_for, k_fo1, k_wh, e_itS, k_it1, k_it2, k_it3, walk_l, walk_f, walk_t, e_itR1, k_r11, k_r12, e_itR2, k_r21, k_r22, e_itE, k_en1, k_en2, k_en3, list_l, list_f, e_lc, k_lc, k_lcQ, compL_nil, k_c1, k_c2, k_c3, k_c4, e_yes, wip_nil, wip_cons, unw_nil, unw_cons, g_int, f_add, f_sub, f_mul, f_div, f_mod, f_pow, f_lt, f_le, f_gt, f_ge, add_i, add_s, add_l, add_t, mul_i, mul_l, mul_t, neg_i, ix_l, ix_t, sl_l, sl_f, sl_t, len_l, len_f, len_t, len_s, abs_i, int_i, lof_l, lof_f, lof_t, tof_l, tof_f, tof_t, dof_t, app_l, ext_t, ext_l, tru_b, tru_i, tru_l, tru_t, tru_n, augN, subN, is_bl, is_non, ixN4_0, ixN4_1, ixN4_2, ixN4_3, lk_some, lk_ite, lk_map, lk_bind, ixOf, endsF_nx, endsF_dat, endsF_own, atI_0, atI_1, atI_2, atI_3, eqA_l0, eqA_tup0, eqA_int, eqA_non, bne_f, bne_t, sizeLine_eq,
  List.cons_append, List.nil_append, List.getElem?_cons_zero, List.getElem?_cons_succ, List.set_cons_zero, List.set_cons_succ, List.length_cons, List.length_nil, List.replicate, List.take_succ_cons, List.take_zero, List.not_mem_nil, List.mem_cons, List.map_cons, List.map_nil, if_false, if_true, Option.map_some, Option.bind_some, Option.getD_some, Nat.reduceAdd, Nat.reduceSub, Nat.reduceLeDiff, Nat.reduceEqDiff, Nat.succ_ne_zero, Nat.zero_ne_one, Nat.one_ne_zero, List.isEmpty_nil, List.isEmpty_cons, List.length_map, List.isEmpty_map, beq_iff_eq, Bool.not_eq_true, reduceCtorEq, or_false, or_true, false_or, true_or, and_true, true_and, List.cons.injEq, Option.some.injEq, Sl.own.injEq, Own.lst.injEq, exists_eq', not_false_eq_true, forall_const, forall_eq, forall_eq_or_imp, decide_eq_true_eq, Bool.not_true, Bool.not_false, Bool.false_eq_true, ite_self])
local macro_rules | `(tactic| walk_at "len") => `(tactic| first | omega | (simp only [List.length_append, List.length_cons, List.length_nil, List.length_map, List.length_singleton, List.length_replicate, List.length_range, List.length_take, List.length_drop, List.length_reverse]; omega) | (simp; omega) | (simp; done))
theorem fx_one {xk : Addr → Str → Bool} {C : Addr} {f : Str} {d : D} (h : xk C f = true) : fxD xk f (.exc C [(f, d)]) = some d := by
  rw [fx_d h, List.lookup_cons, beq_self_eq_true]
theorem fx_two {xk : Addr → Str → Bool} {C : Addr} {f g : Str} {d e : D} (h : xk C f = true) (n : (f == g) = false) : fxD xk f (.exc C [(g, e), (f, d)]) = some d := by
  rw [fx_d h, List.lookup_cons, n]
  show List.lookup f [(f, d)] = some d
  rw [List.lookup_cons, beq_self_eq_true]
theorem fx_one' {xk : Addr → Str → Bool} {C : Addr} {f g : Str} {d e : D} (h : xk C f = true) : fxD xk f (.exc C [(f, d), (g, e)]) = some d := by
  rw [fx_d h, List.lookup_cons, beq_self_eq_true]
theorem lg19 {m : Nat} (h : m < 2 ^ 64) : m.log2 < 1900 := by
  rcases Nat.eq_zero_or_pos m with rfl | hp
  · decide
  · have := (Nat.log2_lt (n := m) (k := 64) (by omega)).mpr h
    omega
theorem cls_row {l : List Addr} (nd : l.Nodup) {j : Nat} {C : Addr} (h : l[j]? = some C) : l.map (fun E => decide (C = E)) = (List.range l.length).map fun k => decide (k = j) := by
  refine List.ext_getElem (by rw [List.length_map, List.length_map, List.length_range]) fun k h1 h2 => ?_
  rw [List.getElem_map, List.getElem_map, List.getElem_range]
  rw [List.length_map] at h1
  obtain ⟨hj, rfl⟩ := List.getElem?_eq_some_iff.mp h
  rw [Bool.eq_iff_iff, decide_eq_true_iff, decide_eq_true_iff]
  constructor
  · intro e
    exact ((List.getElem_inj nd).mp e).symm
  · intro e
    subst e; rfl
theorem conD_pl : Pl conD := by rw [pl_tup, pls_cons, pls_nil, pl_str]; decide +kernel
theorem non_pl : Pl (.str "none") := by rw [pl_str]; decide +kernel
theorem rep_1 {a b : Int} (ha : a.natAbs.log2 < 1900) (hb : b.natAbs.log2 < 1900) : ∃ z, gRepr [.lst [.int a, .int b, .int a, .int b, conD]] = some (.d (.str z)) :=
  have ta := tx_int (i := a) (by omega)
  have tb := tx_int (i := b) (by omega)
  tx_repr (tx_lst (txs_cons (k := 5) ta (txs_cons (k := 5) tb (txs_cons (k := 5) ta (txs_cons (k := 5) tb (txs_cons (k := 5) (tx_pl conD_pl) txs_nil (by decide) (by decide)) (by decide) (by decide)) (by decide) (by decide)) (by decide) (by decide)) (by decide) (by decide))) (by decide) (by decide)
theorem rep_2 {a b : Int} (ha : a.natAbs.log2 < 1900) (hb : b.natAbs.log2 < 1900) : ∃ z, gRepr [.lst [.int b, nonT a]] = some (.d (.str z)) :=
  have ta := tx_int (i := a) (by omega)
  have tb := tx_int (i := b) (by omega)
  tx_repr (tx_lst (txs_cons (k := 5) tb (txs_cons (k := 5) (tx_tup (txs_cons (k := 3) (tx_pl non_pl) (txs_cons (k := 3) ta txs_nil (by decide) (by decide)) (by decide) (by decide))) txs_nil (by decide) (by decide)) (by decide) (by decide))) (by decide) (by decide)
abbrev lawB0 (em : Addr → Addr → Option Bool) (ik : Addr → D → Option Bool) (xk : Addr → Str → Bool) (LE : Addr) (x : Xs) : SD := (wSeq (wIfS (wBl (wOp (gEqA true) (wCall [] (sp__law_classes x) (wCons (wVar 6) wNil)) (wLc [] (wItR1 (wCons (wB gLen (wCons (wVar 4) wNil)) wNil)) (hName [] 11) wYes (wOp (gEqA false) (wVar 11) (wVar 5)) [11]))) (wRet [] (wC (.bl false))) wNext) (wIfS (wOr (wNot (wTr (wB (gIsX ik) (wCons (wVar 6) (wCons (wC (.cls LE)) wNil))))) (wNot (wTr (wB (gIsX ik) (wCons (wVar 6) (wCons (wC (.ty "ValueError")) wNil)))))) (wRet [] (wC (.bl false))) wNext))
abbrev lawB1 (em : Addr → Addr → Option Bool) (ik : Addr → D → Option Bool) (xk : Addr → Str → Bool) (LE : Addr) (x : Xs) : SD := (wIfS (wBl (wOp (gEqA true) (wB gRepr (wCons (wCall [] sp_is_name (wCons (wVar 8) wNil)) wNil)) (wB gRepr (wCons (wCall [] sp__law_is_named (wCons (wVar 8) wNil)) wNil)))) (wRet [] (wC (.bl false))) wNext)
abbrev lawB2 (em : Addr → Addr → Option Bool) (ik : Addr → D → Option Bool) (xk : Addr → Str → Bool) (LE : Addr) (x : Xs) : SD := (wSeq (wIfS (wBl (wOp (gIs true) (wCall [] sp_is_name (wCons (wVar 10) wNil)) (wC (.bl false)))) (wRet [] (wC (.bl false))) wNext) (wIfS (wBl (wOp (gEqA true) (wB gRepr (wCons (wCall [] sp_is_integer (wCons (wVar 10) wNil)) wNil)) (wB gRepr (wCons (wAndV (wB gIsi (wCons (wVar 10) (wCons (wC (.ty "int")) wNil))) (wNotV (wB gIsi (wCons (wVar 10) (wCons (wC (.ty "bool")) wNil))))) wNil)))) (wRet [] (wC (.bl false))) wNext))
def lawR_8 (em : Addr → Addr → Option Bool) (ik : Addr → D → Option Bool) (xk : Addr → Str → Bool) (LE : Addr) (x : Xs) : SD := (wSeq (wAsg [] 9 (wLst [] (wCons (wC (.int 0)) (wCons (wOp (gInt fSub) (wC (.int 0)) (wC (.int 1))) (wCons (wOp (gInt fPow) (wC (.int 10)) (wC (.int 30))) (wCons (wC (.bl true)) (wCons (wC (.bl false)) (wCons (wC .non) (wCons (wC (.str "1")) (wCons (wC (.str "")) (wCons (wLst [] wNil) (wCons wDct0 (wCons (wTup [] wNil) (wCons (wTup [] (wCons (wC (.int 1)) wNil)) (wCons (wLst [] (wCons (wC (.str "a")) wNil)) (wCons (wTup [] (wCons (wC (.str "a")) wNil)) (wCons (wVar 2) wNil))))))))))))))))) (wSeq (wFor (wItS [] (wVar 9)) (hName [] 10) (lawB2 em ik xk LE x)) (wRet [] (wC (.bl true)))))
def lawR_7 (em : Addr → Addr → Option Bool) (ik : Addr → D → Option Bool) (xk : Addr → Str → Bool) (LE : Addr) (x : Xs) : SD := (wSeq (wFor (wItS [] (wCallR [] sp__law_words (wCons (wVar 1) wNil))) (hName [] 8) (lawB1 em ik xk LE x)) (lawR_8 em ik xk LE x))
def lawR_4 (em : Addr → Addr → Option Bool) (ik : Addr → D → Option Bool) (xk : Addr → Str → Bool) (LE : Addr) (x : Xs) : SD := (wSeq (wAsg [] 7 (wLst [] (wCons (wFx xk "limit" (wOp gIx (wVar 4) (wC (.int 0)))) (wCons (wFx xk "line" (wOp gIx (wVar 4) (wC (.int 1)))) (wCons (wFx xk "column" (wOp gIx (wVar 4) (wC (.int 1)))) (wCons (wFx xk "place" (wOp gIx (wVar 4) (wC (.int 2)))) (wCons (wFx xk "answer" (wOp gIx (wVar 4) (wC (.int 3)))) wNil))))))) (wSeq (wIfS (wBl (wOp (gEqA true) (wB gRepr (wCons (wVar 7) wNil)) (wB gRepr (wCons (wLst [] (wCons (wVar 2) (wCons (wVar 3) (wCons (wVar 2) (wCons (wVar 3) (wCons (wTup [] (wCons (wC (.str "constant")) wNil)) wNil)))))) wNil)))) (wRet [] (wC (.bl false))) wNext) (wSeq (wIfS (wBl (wOp (gEqA true) (wB gRepr (wCons (wLst [] (wCons (wFx xk "place" (wOp gIx (wVar 4) (wC (.int 14)))) (wCons (wFx xk "fault" (wOp gIx (wVar 4) (wC (.int 15)))) wNil))) wNil)) (wB gRepr (wCons (wLst [] (wCons (wVar 3) (wCons (wTup [] (wCons (wC (.str "none")) (wCons (wVar 2) wNil))) wNil))) wNil)))) (wRet [] (wC (.bl false))) wNext) (lawR_7 em ik xk LE x))))
abbrev lawB (em : Addr → Addr → Option Bool) (ik : Addr → D → Option Bool) (xk : Addr → Str → Bool) (LE : Addr) (x : Xs) : SD := (wSeq (wAsg [] 1 (wCall [] sp__law_pot_of (wCons (wVar 0) wNil))) (wSeq (wPar [] [2, 3] (wCons (wCallR [] sp__law_below (wCons (wVar 1) (wCons (wOp (gInt fPow) (wC (.int 10)) (wC (.int 6))) wNil))) (wCons (wOp (gInt fSub) (wCallR [] sp__law_below (wCons (wVar 1) (wCons (wOp (gInt fPow) (wC (.int 10)) (wC (.int 4))) wNil))) (wC (.int 1))) wNil))) (wSeq (wAsg [] 4 (wCall [] (sp__law_made x) (wCons (wVar 2) (wCons (wVar 3) wNil)))) (wSeq (wFor (wItE [] (wCons (wVar 4) wNil)) (hTup 2 (hCons (hName [] 5) (hCons (hName [] 6) hNil))) (lawB0 em ik xk LE x)) (lawR_4 em ik xk LE x)))))

section
variable {em : Addr → Addr → Option Bool} {ik : Addr → D → Option Bool} {xk : Addr → Str → Bool} {LE : Addr} {x : Xs} {DD : EndsD} {a b : Int}
theorem err_at {j : Nat} {C : Addr} (h : x.l[j]? = some C) : ∃ d, (errL x a b)[j]? = some d ∧ ExcOf C d := by
  have hj : j < 16 := (List.getElem?_eq_some_iff.mp h).1
  match j, hj, h with
  | 0, _, h => cases h; exact ⟨_, rfl, .inr ⟨_, rfl⟩⟩
  | 1, _, h => cases h; exact ⟨_, rfl, .inr ⟨_, rfl⟩⟩
  | 2, _, h => cases h; exact ⟨_, rfl, .inr ⟨_, rfl⟩⟩
  | 3, _, h => cases h; exact ⟨_, rfl, .inr ⟨_, rfl⟩⟩
  | 4, _, h => cases h; exact ⟨_, rfl, .inl rfl⟩
  | 5, _, h => cases h; exact ⟨_, rfl, .inl rfl⟩
  | 6, _, h => cases h; exact ⟨_, rfl, .inl rfl⟩
  | 7, _, h => cases h; exact ⟨_, rfl, .inl rfl⟩
  | 8, _, h => cases h; exact ⟨_, rfl, .inl rfl⟩
  | 9, _, h => cases h; exact ⟨_, rfl, .inl rfl⟩
  | 10, _, h => cases h; exact ⟨_, rfl, .inl rfl⟩
  | 11, _, h => cases h; exact ⟨_, rfl, .inl rfl⟩
  | 12, _, h => cases h; exact ⟨_, rfl, .inl rfl⟩
  | 13, _, h => cases h; exact ⟨_, rfl, .inl rfl⟩
  | 14, _, h => cases h; exact ⟨_, rfl, .inr ⟨_, rfl⟩⟩
  | 15, _, h => cases h; exact ⟨_, rfl, .inr ⟨_, rfl⟩⟩
theorem law_b0 {s0 s1 s2 s3 s7 s8 s9 s10 : Sl} {es : List D} (K : XsK x LE ik xk) (he : es.length = 16) (hN : ∀ s5 s6, DD.nx [s0, s1, s2, s3, .dat (.lst es), s5, s6, s7, s8, s9, s10, .no]) :
    ∀ (ds : List D) (j : Nat) (s5 s6 : Sl), (∀ i, i < ds.length → ∃ C d, ds[i]? = some d ∧ x.l[j + i]? = some C ∧ ExcOf C d) → j + ds.length ≤ 16 →
    forL (hTup 2 (hCons (hName [] 5) (hCons (hName [] 6) hNil))) (lawB0 em ik xk LE x) DD (enumD j ds) [s0, s1, s2, s3, .dat (.lst es), s5, s6, s7, s8, s9, s10, .no]
  | [], j, s5, s6, _, _ => hN s5 s6
  | d :: ds, j, s5, s6, h, hj => by
    have ih := law_b0 K he hN ds (j + 1)
    rw [List.length_cons] at hj
    obtain ⟨C, d', e1, e2, e3⟩ := h 0 (by rw [List.length_cons]; omega)
    cases e1
    rw [Nat.add_zero] at e2
    have hC : C ∈ x.l := List.mem_of_getElem? e2
    show forL _ _ _ (.wt [.int (j : Nat), d] :: enumD (j + 1) ds) _
    rw [forL_cons]
    unfold lawB0
    walk_at "dlf"
    refine ⟨C, d, rfl, e3, hC, ?_⟩
    walk_at "dlf"
    have en : (es.length : Int) = 16 := by omega
    rw [en]
    refine ⟨by decide, by decide, fun o z => (by cases z), ?_⟩
    refine at_comp (P := fun _ => True) (g := fun k : Nat => .int (k : Nat)) (f := fun k : Nat => .bl ((k : Int) == (j : Int))) (fun k Q _ q => ?_) rfl (List.range (16 : Int).toNat) [] (fun _ _ => True.intro) (by walk_at "len") ?_
    · walk_at "dlf"
      exact q
    rw [List.nil_append]
    walk_at "dlf"
    have r1 : x.l.map (fun E => D.bl (decide (C = E))) = (x.l.map fun E => decide (C = E)).map .bl := by rw [List.map_map]; rfl
    have r2 : (List.range (16 : Int).toNat).map (fun k : Nat => D.bl ((k : Int) == (j : Int))) = ((List.range x.l.length).map fun k => decide (k = j)).map .bl := by
      rw [List.map_map]
      refine List.map_congr_left fun k _ => ?_
      show D.bl ((k : Int) == (j : Int)) = D.bl (decide (k = j))
      congr 1
      rw [Bool.eq_iff_iff, beq_iff_eq, decide_eq_true_iff]
      omega
    rw [r1, r2, lk_eq (eqA_bls (neg := true)), decide_eq_true (cls_row K.nd e2)]
    walk_at "dlf"
    try rw [if_neg (by decide)]
    rw [lk_eq (gisx_of e3 (K.le C hC))]
    walk_at "dlf"
    rw [lk_eq (gisx_of e3 (K.ve C hC))]
    walk_at "dlf"
    try rw [if_neg (by decide)]
    refine ih _ _ (fun i hi => ?_) (by omega)
    have := h (i + 1) (by rw [List.length_cons]; omega)
    rw [List.getElem?_cons_succ, show j + (i + 1) = j + 1 + i by omega] at this
    exact this
/-- words told alike -/
theorem law_b1 {s0 s1 s2 s3 s4 s5 s6 s7 s9 s10 : Sl} (hN : ∀ s8, DD.nx [s0, s1, s2, s3, s4, s5, s6, s7, s8, s9, s10, .no]) :
    ∀ (l : List Str) (s8 : Sl), (∀ y ∈ l, y.length ≤ 1000) → forL (hName [] 8) (lawB1 em ik xk LE x) DD (l.map .str) [s0, s1, s2, s3, s4, s5, s6, s7, s8, s9, s10, .no]
  | [], s8, _ => hN s8
  | y :: l, s8, h => by
    have ih := law_b1 hN l
    rw [List.map_cons, forL_cons]
    unfold lawB1
    have hy := h y List.mem_cons_self
    walk_at "dlf"
    refine ⟨.str y, rfl, ⟨_, rfl⟩, fun z e => by cases e; exact hy, ?_⟩
    walk_at "dlf"
    rw [lk_eq (repr_bl _)]
    walk_at "dlf"
    refine ⟨y, rfl, hy, ?_⟩
    walk_at "dlf"
    rw [lk_eq (repr_bl _)]
    walk_at "dlf"
    rw [show nameB (.str y) = nameS y from rfl, lk_eq eqA_same]
    walk_at "dlf"
    try rw [if_neg (by decide)]
    exact ih _ fun z hz => h z (List.mem_cons_of_mem _ hz)
/-- things that are no words, and whether they are integers -/
theorem law_b2 {s0 s1 s2 s3 s4 s5 s6 s7 s8 s9 : Sl} (hN : ∀ s10, DD.nx [s0, s1, s2, s3, s4, s5, s6, s7, s8, s9, s10, .no]) :
    ∀ (l : List D) (s10 : Sl), (∀ y ∈ l, TyOk y ∧ nameB y = false ∧ ∀ z, y = .str z → z.length ≤ 1000) → forL (hName [] 10) (lawB2 em ik xk LE x) DD l [s0, s1, s2, s3, s4, s5, s6, s7, s8, s9, s10, .no]
  | [], s10, _ => hN s10
  | y :: l, s10, h => by
    have ih := law_b2 hN l
    rw [forL_cons]
    unfold lawB2
    obtain ⟨h1, h2, h3⟩ := h y List.mem_cons_self
    walk_at "dlf"
    refine ⟨y, rfl, h1, h3, ?_⟩
    rw [h2]
    walk_at "dlf"
    rw [if_neg (by simp)]
    refine ⟨y, rfl, h1, ?_⟩
    walk_at "dlf"
    rw [lk_eq (repr_bl _)]
    walk_at "dlf"
    rw [lk_eq (isi_intT h1)]
    walk_at "dlf"
    have hl' : ∀ y ∈ l, TyOk y ∧ nameB y = false ∧ ∀ z, y = .str z → z.length ≤ 1000 := fun z hz => h z (List.mem_cons_of_mem _ hz)
    rw [int_eq]
    cases hi : isIntD y with
    | false =>
      walk_at "dlf"
      rw [lk_eq (repr_bl _)]
      walk_at "dlf"
      rw [Bool.false_and, lk_eq eqA_same]
      walk_at "dlf"
      try rw [if_neg (by decide)]
      exact ih _ hl'
    | true =>
      walk_at "dlf"
      rw [lk_eq (isi_boolT h1)]
      walk_at "dlf"
      rw [lk_eq (repr_bl _)]
      walk_at "dlf"
      rw [Bool.true_and, lk_eq eqA_same]
      walk_at "dlf"
      try rw [if_neg (by decide)]
      exact ih _ hl'
theorem law_r8 {s0 s1 s3 s4 s5 s6 s7 s8 s9 s10 : Sl} (hN : ∀ s9 s10, DD.rt (.dat (.bl true)) [s0, s1, .dat (.int a), s3, s4, s5, s6, s7, s8, s9, s10, .no]) :
    lawR_8 em ik xk LE x DD [s0, s1, .dat (.int a), s3, s4, s5, s6, s7, s8, s9, s10, .no] := by
  unfold lawR_8
  walk_at "dlf"
  refine ⟨⟨by decide, by decide, by decide⟩, ?_⟩
  refine law_b2 (fun s10 => ?_) _ _ fun y hy => ?_
  · walk_at "dlf"
    exact hN _ _
  · simp only [List.mem_cons, List.not_mem_nil, or_false] at hy
    rcases hy with rfl | rfl | rfl | rfl | rfl | rfl | rfl | rfl | rfl | rfl | rfl | rfl | rfl | rfl | rfl <;> refine ⟨⟨_, rfl⟩, ?_, fun z e => ?_⟩
    all_goals first
      | (cases e <;> decide +kernel)
      | rfl
      | decide +kernel
theorem law_r7 {n : Nat} {o : Own} {s0 s3 s4 s5 s6 s7 s8 s9 s10 : Sl} (hd : Dk (n + 200) o) (hN : ∀ o s8 s9 s10, DD.rt (.dat (.bl true)) [s0, .own o, .dat (.int a), s3, s4, s5, s6, s7, s8, s9, s10, .no]) :
    lawR_7 em ik xk LE x DD [s0, .own o, .dat (.int a), s3, s4, s5, s6, s7, s8, s9, s10, .no] := by
  unfold lawR_7
  walk_at "dlf"
  refine ⟨n, o, rfl, hd, fun l o1 hl hll hd1 => ?_⟩
  walk_at "dlf"
  exact law_b1 (fun s8 => law_r8 fun s9 s10 => hN o1 s8 s9 s10) l _ hl
theorem law_r4 {n : Nat} {o : Own} {s0 s5 s6 s7 s8 s9 s10 : Sl} (K : XsK x LE ik xk) (ha : a.natAbs.log2 < 1900) (hb : b.natAbs.log2 < 1900) (hd : Dk (n + 200) o) (hN : ∀ o s7 s8 s9 s10, DD.rt (.dat (.bl true)) [s0, .own o, .dat (.int a), .dat (.int b), .dat (.lst (errL x a b)), s5, s6, s7, s8, s9, s10, .no]) :
    lawR_4 em ik xk LE x DD [s0, .own o, .dat (.int a), .dat (.int b), .dat (.lst (errL x a b)), s5, s6, s7, s8, s9, s10, .no] := by
  unfold lawR_4
  obtain ⟨z1, ez1⟩ := rep_1 ha hb
  obtain ⟨z2, ez2⟩ := rep_2 ha hb
  have e0 : atI (errL x a b) 0 = some (.exc x.TM [("limit", .int a)]) := rfl
  have e1 : atI (errL x a b) 1 = some (.exc x.SP [("column", .int a), ("line", .int b)]) := rfl
  have e2 : atI (errL x a b) 2 = some (.exc x.NS [("place", .int b)]) := rfl
  have e3 : atI (errL x a b) 3 = some (.exc x.NK [("answer", conD)]) := rfl
  have e14 : atI (errL x a b) 14 = some (.exc x.NW [("place", .int b)]) := rfl
  have e15 : atI (errL x a b) 15 = some (.exc x.NT [("fault", nonT a)]) := rfl
  walk_at "dlf"
  rw [lk_eq e0, lk_eq (fx_one K.x1), lk_eq e1, lk_eq (fx_two K.x2 (by decide)), lk_eq e1, lk_eq (fx_one' K.x3), lk_eq e2, lk_eq (fx_one K.x4), lk_eq e3, lk_eq (fx_one K.x5), lk_eq ez1]
  walk_at "dlf"
  rw [lk_eq ez1]
  walk_at "dlf"
  rw [lk_eq eqA_same]
  walk_at "dlf"
  try rw [if_neg (by decide)]
  rw [lk_eq e14, lk_eq (fx_one K.x6), lk_eq e15, lk_eq (fx_one K.x7), lk_eq ez2]
  walk_at "dlf"
  rw [lk_eq ez2]
  walk_at "dlf"
  rw [lk_eq eqA_same]
  walk_at "dlf"
  try rw [if_neg (by decide)]
  exact law_r7 hd fun o s8 s9 s10 => hN o _ s8 s9 s10
end
def rd_law (ks : List Nat) (em : Addr → Addr → Option Bool) (ik : Addr → D → Option Bool) (xk : Addr → Str → Bool) (LE : Addr) (sp_is_integer : DSp) (sp_is_name : DSp) (sp__law_words : DSp) (sp__law_is_named : DSp) (sp__law_classes : DSp) (sp__law_made : DSp) (sp__law_below : DSp) (sp__law_pot_of : DSp) : SD :=
  (wSeq (wAsg ks 1 (wCall ks sp__law_pot_of (wCons (wVar 0) wNil)))
  (wSeq (wPar ks [2, 3] (wCons (wCallR ks sp__law_below (wCons (wVar 1) (wCons (wOp (gInt fPow) (wC (.int 10)) (wC (.int 6))) wNil))) (wCons (wOp (gInt fSub) (wCallR ks sp__law_below (wCons (wVar 1) (wCons (wOp (gInt fPow) (wC (.int 10)) (wC (.int 4))) wNil))) (wC (.int 1))) wNil)))
  (wSeq (wAsg ks 4 (wCall ks sp__law_made (wCons (wVar 2) (wCons (wVar 3) wNil))))
  (wSeq (wFor (wItE ks (wCons (wVar 4) wNil)) (hTup 2 (hCons (hName ks 5) (hCons (hName ks 6) hNil))) (wSeq (wIfS (wBl (wOp (gEqA true) (wCall ks sp__law_classes (wCons (wVar 6) wNil)) (wLc ks (wItR1 (wCons (wB gLen (wCons (wVar 4) wNil)) wNil)) (hName ks 11) wYes (wOp (gEqA false) (wVar 11) (wVar 5)) [11]))) (wRet ks (wC (.bl false))) wNext)
  (wIfS (wOr (wNot (wTr (wB (gIsX ik) (wCons (wVar 6) (wCons (wC (.cls LE)) wNil))))) (wNot (wTr (wB (gIsX ik) (wCons (wVar 6) (wCons (wC (.ty "ValueError")) wNil)))))) (wRet ks (wC (.bl false))) wNext)))
  (wSeq (wAsg ks 7 (wLst ks (wCons (wFx xk "limit" (wOp gIx (wVar 4) (wC (.int 0)))) (wCons (wFx xk "line" (wOp gIx (wVar 4) (wC (.int 1)))) (wCons (wFx xk "column" (wOp gIx (wVar 4) (wC (.int 1)))) (wCons (wFx xk "place" (wOp gIx (wVar 4) (wC (.int 2)))) (wCons (wFx xk "answer" (wOp gIx (wVar 4) (wC (.int 3)))) wNil)))))))
  (wSeq (wIfS (wBl (wOp (gEqA true) (wB gRepr (wCons (wVar 7) wNil)) (wB gRepr (wCons (wLst ks (wCons (wVar 2) (wCons (wVar 3) (wCons (wVar 2) (wCons (wVar 3) (wCons (wTup ks (wCons (wC (.str "constant")) wNil)) wNil)))))) wNil)))) (wRet ks (wC (.bl false))) wNext)
  (wSeq (wIfS (wBl (wOp (gEqA true) (wB gRepr (wCons (wLst ks (wCons (wFx xk "place" (wOp gIx (wVar 4) (wC (.int 14)))) (wCons (wFx xk "fault" (wOp gIx (wVar 4) (wC (.int 15)))) wNil))) wNil)) (wB gRepr (wCons (wLst ks (wCons (wVar 3) (wCons (wTup ks (wCons (wC (.str "none")) (wCons (wVar 2) wNil))) wNil))) wNil)))) (wRet ks (wC (.bl false))) wNext)
  (wSeq (wFor (wItS ks (wCallR ks sp__law_words (wCons (wVar 1) wNil))) (hName ks 8) (wIfS (wBl (wOp (gEqA true) (wB gRepr (wCons (wCall ks sp_is_name (wCons (wVar 8) wNil)) wNil)) (wB gRepr (wCons (wCall ks sp__law_is_named (wCons (wVar 8) wNil)) wNil)))) (wRet ks (wC (.bl false))) wNext))
  (wSeq (wAsg ks 9 (wLst ks (wCons (wC (.int 0)) (wCons (wOp (gInt fSub) (wC (.int 0)) (wC (.int 1))) (wCons (wOp (gInt fPow) (wC (.int 10)) (wC (.int 30))) (wCons (wC (.bl true)) (wCons (wC (.bl false)) (wCons (wC .non) (wCons (wC (.str "1")) (wCons (wC (.str "")) (wCons (wLst ks wNil) (wCons wDct0 (wCons (wTup ks wNil) (wCons (wTup ks (wCons (wC (.int 1)) wNil)) (wCons (wLst ks (wCons (wC (.str "a")) wNil)) (wCons (wTup ks (wCons (wC (.str "a")) wNil)) (wCons (wVar 2) wNil)))))))))))))))))
  (wSeq (wFor (wItS ks (wVar 9)) (hName ks 10) (wSeq (wIfS (wBl (wOp (gIs true) (wCall ks sp_is_name (wCons (wVar 10) wNil)) (wC (.bl false)))) (wRet ks (wC (.bl false))) wNext)
  (wIfS (wBl (wOp (gEqA true) (wB gRepr (wCons (wCall ks sp_is_integer (wCons (wVar 10) wNil)) wNil)) (wB gRepr (wCons (wAndV (wB gIsi (wCons (wVar 10) (wCons (wC (.ty "int")) wNil))) (wNotV (wB gIsi (wCons (wVar 10) (wCons (wC (.ty "bool")) wNil))))) wNil)))) (wRet ks (wC (.bl false))) wNext)))
  (wRet ks (wC (.bl true)))))))))))))
def sp_law : DSp := fun args Q _ => ∃ (l : List Int), args = [.dat (.fzl (l.map .int))] ∧ l.length ≤ 63 ∧ Q (.dat (.bl true)) [.dat (.fzl (l.map .int))]
theorem pl_law {em : Addr → Addr → Option Bool} {ik : Addr → D → Option Bool} {xk : Addr → Str → Bool} (x : Xs) (LE : Addr) (K : XsK x LE ik xk) : PL 12 1 (fun ks => rd_law ks em ik xk LE sp_is_integer sp_is_name sp__law_words sp__law_is_named (sp__law_classes x) (sp__law_made x) sp__law_below sp__law_pot_of) sp_law := fun args QD ED h => by
  obtain ⟨l, rfl, hl, h⟩ := h
  refine ⟨rfl, ?_⟩
  show lawB em ik xk LE x _ _
  unfold lawB
  walk_at "dlf"
  refine ⟨l, rfl, hl, fun o hd => ?_⟩
  walk_at "dlf"
  refine ⟨⟨by decide, by decide, by decide⟩, 1000, o, _, rfl, hd.mono (by omega), by decide, by decide, fun r o1 r0 r1 hd1 => ?_⟩
  walk_at "dlf"
  refine ⟨⟨by decide, by decide, by decide⟩, 999, o1, _, rfl, hd1.mono (by omega), by decide, by decide, fun q o2 q0 q1 hd2 => ?_⟩
  have r1' : r < 1000000 := r1
  have q1' : q < 10000 := q1
  have hr : r.natAbs.log2 < 1900 := lg19 (by omega)
  have hq : (q - 1).natAbs.log2 < 1900 := lg19 (by omega)
  walk_at "dlf"
  refine ⟨r, q - 1, rfl, hr, hq, ?_⟩
  walk_at "dlf"
  refine law_b0 K rfl (fun s5 s6 => ?_) _ 0 _ _ (fun i hi => ?_) (Nat.le_refl 16)
  · exact law_r4 K hr hq (n := 0) (hd2.mono (by omega)) fun o s7 s8 s9 s10 => h
  · have hi' : i < x.l.length := hi
    have eC : x.l[i]? = some (x.l[i]'hi') := List.getElem?_eq_getElem hi'
    obtain ⟨d, e1, e2⟩ := err_at (a := r) (b := q - 1) eC
    exact ⟨_, d, e1, by rw [Nat.zero_add]; exact eC, e2⟩

end DL.Pot.Er

set_option Elab.async false
set_option maxRecDepth 100000
set_option maxHeartbeats 4000000
namespace DL.Pot.Er.F
open DL DL.Pot DL.Pot.Er PySem PySem.Spec PyProof.Rows L2
def excB (K : PySem.W.Frag) (C : Addr) : Bool := (PySem.W.findIn K (.ref C) "__getattribute__" == some (some (.builtin "BaseException.__getattribute__"))) && ((PySem.W.findIn K (.ref C) "__getattr__" == some none) && ((PySem.W.subIn K (.ref C) (.type "BaseException") == some true) && (PySem.W.hasDictIn K C && ((PySem.W.findIn K (.ref C) "__class__" == some (some (.builtin "object.__class__"))) && (PySem.W.mroIn K C (.type "object") == some true)))))
def metaB (K : PySem.W.Frag) (C : Addr) : Bool := (PySem.W.clsIn K C).isSome && PySem.W.typeIn K (.ref C) == some (.type "type")
theorem excB_of {K : PySem.W.Frag} {C : Addr} (h : excB K C = true) (h1 : PySem.W.specialIn K (.builtin "object.__class__") "__get__" = some (some (.builtin "getset_descriptor.__get__"))) (h2 : PySem.W.takesIn K (.builtin "object.__class__") = some true) : ExcC K C ∧ XfC K C := by
  unfold excB at h
  simp only [Bool.and_eq_true, beq_iff_eq] at h
  obtain ⟨a, b, c, d, e, f⟩ := h
  exact ⟨excC_mk a b c d e h1 h2 f, xfC_mk a b c d⟩
theorem xsk_mk {K : PySem.W.Frag} {TM SP NS NK XA XB XC XD1 XE1 XF XG XH XI XJ NW NT LE : Addr} (h1 : PySem.W.specialIn K (.builtin "object.__class__") "__get__" = some (some (.builtin "getset_descriptor.__get__"))) (h2 : PySem.W.takesIn K (.builtin "object.__class__") = some true)
    (he : (([TM, SP, NS, NK, XA, XB, XC, XD1, XE1, XF, XG, XH, XI, XJ, NW, NT] : List Addr).all fun C => excB K C) = true) (hm : (([TM, SP, NS, NK, XA, XB, XC, XD1, XE1, XF, XG, XH, XI, XJ, NW, NT] ++ [LE] : List Addr).all fun C => metaB K C) = true) (hs : (([TM, SP, NS, NK, XA, XB, XC, XD1, XE1, XF, XG, XH, XI, XJ, NW, NT] : List Addr).all fun C => ([TM, SP, NS, NK, XA, XB, XC, XD1, XE1, XF, XG, XH, XI, XJ, NW, NT] : List Addr).all fun E => PySem.W.subIn K (.ref C) (.ref E) == some (decide (C = E))) = true)
    (hl : (([TM, SP, NS, NK, XA, XB, XC, XD1, XE1, XF, XG, XH, XI, XJ, NW, NT] : List Addr).all fun C => PySem.W.subIn K (.ref C) (.ref LE) == some true) = true) (hv : (([TM, SP, NS, NK, XA, XB, XC, XD1, XE1, XF, XG, XH, XI, XJ, NW, NT] : List Addr).all fun C => PySem.W.subIn K (.ref C) (.type "ValueError") == some true) = true) (nd : ([TM, SP, NS, NK, XA, XB, XC, XD1, XE1, XF, XG, XH, XI, XJ, NW, NT] : List Addr).Nodup)
    (f0 : PySem.W.findIn K (.ref TM) "limit" = some none)
    (f1 : PySem.W.findIn K (.ref SP) "line" = some none)
    (f2 : PySem.W.findIn K (.ref SP) "column" = some none)
    (f3 : PySem.W.findIn K (.ref NS) "place" = some none)
    (f4 : PySem.W.findIn K (.ref NK) "answer" = some none)
    (f5 : PySem.W.findIn K (.ref NW) "place" = some none)
    (f6 : PySem.W.findIn K (.ref NT) "fault" = some none) : XsK ⟨TM, SP, NS, NK, XA, XB, XC, XD1, XE1, XF, XG, XH, XI, XJ, NW, NT⟩ LE (ikK K) (xfK K) := by
  have E : ∀ C ∈ ([TM, SP, NS, NK, XA, XB, XC, XD1, XE1, XF, XG, XH, XI, XJ, NW, NT] : List Addr), ExcC K C ∧ XfC K C := fun C hC => excB_of (List.all_eq_true.mp he C hC) h1 h2
  refine ⟨nd, fun C hC D hD => ?_, fun C hC => ?_, fun C hC => ?_, xf_mk (E _ (by simp)).2 f0, xf_mk (E _ (by simp)).2 f1, xf_mk (E _ (by simp)).2 f2, xf_mk (E _ (by simp)).2 f3, xf_mk (E _ (by simp)).2 f4, xf_mk (E _ (by simp)).2 f5, xf_mk (E _ (by simp)).2 f6⟩
  · refine ik_own (E C hC).1 (List.all_eq_true.mp hm D (List.mem_append_left _ hD)) (fun e => decide_eq_true e) ?_
    exact beq_iff_eq.mp (List.all_eq_true.mp (List.all_eq_true.mp hs C hC) D hD)
  · exact ik_own (E C hC).1 (List.all_eq_true.mp hm LE (List.mem_append_right _ (List.mem_singleton.mpr rfl))) (fun _ => rfl) (beq_iff_eq.mp (List.all_eq_true.mp hl C hC))
  · exact ik_ty (E C hC).1 (by decide +kernel) (beq_iff_eq.mp (List.all_eq_true.mp hv C hC))
structure Blts (mg : Str → Option Value) (base : Heap) : Prop where
  all : mg "all" = none
  ValueError : mg "ValueError" = none
  len : mg "len" = none
  abs : mg "abs" = none
  int : mg "int" = none
  str : mg "str" = none
  bool : mg "bool" = none
  repr : mg "repr" = none
  isinstance : mg "isinstance" = none
  list : mg "list" = none
  tuple : mg "tuple" = none
  dict : mg "dict" = none
  range : mg "range" = none
  enumerate : mg "enumerate" = none
  mods : ModsOk base
def top (i : Nat) : Stmt := PySem.Challenge.pw_layoutswap_k01_errors_and_names.main.body.getD i (.Pass ⟨0, 0, 0, 0⟩)
abbrev s_TooMany___init__ : Stmt := inClass (top 8) 0
abbrev n_TooMany___init__ : List Str := ["self", "limit"]
theorem sc_TooMany___init__ : FnScope n_TooMany___init__ ["self", "limit"] (defScope s_TooMany___init__) := ⟨rfl, rfl, rfl, by decide +kernel, rfl, by decide +kernel, by decide +kernel⟩
abbrev s_SyntaxProblem___init__ : Stmt := inClass (top 9) 0
abbrev n_SyntaxProblem___init__ : List Str := ["self", "line", "column"]
theorem sc_SyntaxProblem___init__ : FnScope n_SyntaxProblem___init__ ["self", "line", "column"] (defScope s_SyntaxProblem___init__) := ⟨rfl, rfl, rfl, by decide +kernel, rfl, by decide +kernel, by decide +kernel⟩
abbrev s_NoStep___init__ : Stmt := inClass (top 10) 0
abbrev n_NoStep___init__ : List Str := ["self", "place"]
theorem sc_NoStep___init__ : FnScope n_NoStep___init__ ["self", "place"] (defScope s_NoStep___init__) := ⟨rfl, rfl, rfl, by decide +kernel, rfl, by decide +kernel, by decide +kernel⟩
abbrev s_NotLike___init__ : Stmt := inClass (top 13) 0
abbrev n_NotLike___init__ : List Str := ["self", "answer"]
theorem sc_NotLike___init__ : FnScope n_NotLike___init__ ["self", "answer"] (defScope s_NotLike___init__) := ⟨rfl, rfl, rfl, by decide +kernel, rfl, by decide +kernel, by decide +kernel⟩
abbrev s_NoRow___init__ : Stmt := inClass (top 11) 0
abbrev n_NoRow___init__ : List Str := ["self", "place"]
theorem sc_NoRow___init__ : FnScope n_NoRow___init__ ["self", "place"] (defScope s_NoRow___init__) := ⟨rfl, rfl, rfl, by decide +kernel, rfl, by decide +kernel, by decide +kernel⟩
abbrev s_NoTable___init__ : Stmt := inClass (top 12) 0
abbrev n_NoTable___init__ : List Str := ["self", "fault"]
theorem sc_NoTable___init__ : FnScope n_NoTable___init__ ["self", "fault"] (defScope s_NoTable___init__) := ⟨rfl, rfl, rfl, by decide +kernel, rfl, by decide +kernel, by decide +kernel⟩
abbrev s_is_integer : Stmt := top 4
abbrev n_is_integer : List Str := ["thing"]
theorem sc_is_integer : FnScope n_is_integer ["thing"] (defScope s_is_integer) := ⟨rfl, rfl, rfl, by decide +kernel, rfl, by decide +kernel, by decide +kernel⟩
abbrev s_is_name : Stmt := top 5
abbrev n_is_name : List Str := ["thing", "sign"]
theorem sc_is_name : FnScope n_is_name ["thing"] (defScope s_is_name) := ⟨rfl, rfl, rfl, by decide +kernel, rfl, by decide +kernel, by decide +kernel⟩
abbrev s__law_kneaded : Stmt := top 25
abbrev n__law_kneaded : List Str := ["seed", "lap", "prime", "amount", "again"]
theorem sc__law_kneaded : FnScope n__law_kneaded ["seed", "lap"] (defScope s__law_kneaded) := ⟨rfl, rfl, rfl, by decide +kernel, rfl, by decide +kernel, by decide +kernel⟩
abbrev s__law_pot_of : Stmt := top 26
abbrev n__law_pot_of : List Str := ["script", "cell", "cells", "place"]
theorem sc__law_pot_of : FnScope n__law_pot_of ["script"] (defScope s__law_pot_of) := ⟨rfl, rfl, rfl, by decide +kernel, rfl, by decide +kernel, by decide +kernel⟩
abbrev s__law_below : Stmt := top 27
abbrev n__law_below : List Str := ["pot", "bound", "cells", "place", "amount", "found"]
theorem sc__law_below : FnScope n__law_below ["pot", "bound"] (defScope s__law_below) := ⟨rfl, rfl, rfl, by decide +kernel, rfl, by decide +kernel, by decide +kernel⟩
abbrev s__law_pick : Stmt := top 28
abbrev n__law_pick : List Str := ["pot", "items"]
theorem sc__law_pick : FnScope n__law_pick ["pot", "items"] (defScope s__law_pick) := ⟨rfl, rfl, rfl, by decide +kernel, rfl, by decide +kernel, by decide +kernel⟩
abbrev s__law_made : Stmt := top 29
abbrev n__law_made : List Str := ["limit", "place", "found"]
theorem sc__law_made : FnScope n__law_made ["limit", "place"] (defScope s__law_made) := ⟨rfl, rfl, rfl, by decide +kernel, rfl, by decide +kernel, by decide +kernel⟩
abbrev s__law_classes : Stmt := top 30
abbrev n__law_classes : List Str := ["error", "found"]
theorem sc__law_classes : FnScope n__law_classes ["error"] (defScope s__law_classes) := ⟨rfl, rfl, rfl, by decide +kernel, rfl, by decide +kernel, by decide +kernel⟩
abbrev s__law_is_named : Stmt := top 31
abbrev n__law_is_named : List Str := ["word", "letters", "figures", "sign"]
theorem sc__law_is_named : FnScope n__law_is_named ["word"] (defScope s__law_is_named) := ⟨rfl, rfl, rfl, by decide +kernel, rfl, by decide +kernel, by decide +kernel⟩
abbrev s__law_words : Stmt := top 32
abbrev n__law_words : List Str := ["pot", "signs", "found", "turn", "spot", "word", "odd"]
theorem sc__law_words : FnScope n__law_words ["pot"] (defScope s__law_words) := ⟨rfl, rfl, rfl, by decide +kernel, rfl, by decide +kernel, by decide +kernel⟩
abbrev s_law : Stmt := top 33
abbrev n_law : List Str := ["script", "pot", "limit", "place", "errors", "at", "error", "fields", "word", "things", "thing", "spot"]
theorem sc_law : FnScope n_law ["script"] (defScope s_law) := ⟨rfl, rfl, rfl, by decide +kernel, rfl, by decide +kernel, by decide +kernel⟩

theorem dv_is_integer {P : Program} {w : World} {K : PySem.W.Frag} {mg : Str → Option Value} {base : Heap} {f : Addr} {cdv : Value} {A : Around} {out : List Env} {s0 : Shared} {H : Hp} {E : XK} {b : Bas} {k : Nat} {ks : List Nat} (zb : Blts mg base) (hk : b.kp.map (·.1) = ks) (room : Room k (A.deeper (envOfC "is_integer" (defScope s_is_integer) s0.heap.objs.size f cdv))) (grd : (A.deeper (envOfC "is_integer" (defScope s_is_integer) s0.heap.objs.size f cdv)).guards = some []) :
    PSsD (cxOf CX0 P w K mg base n_is_integer "is_integer" (defScope s_is_integer) f cdv A out s0 H E).nox b (defBody s_is_integer) (rd_is_integer ks) :=
  (ss_one (s_ret hk (d_and (d_b call_isi b_isi rfl zb.isinstance bt_isinstance (a_cons (d_var 0 (pv 0)) (a_cons (d_tyN rfl zb.int bt_int) a_nil))) (d_one (d_not (d_b call_isi b_isi rfl zb.isinstance bt_isinstance (a_cons (d_var 0 (pv 0)) (a_cons (d_tyN rfl zb.bool bt_bool) a_nil))))))))
theorem dv_is_name {P : Program} {w : World} {K : PySem.W.Frag} {mg : Str → Option Value} {base : Heap} {f : Addr} {cdv : Value} {A : Around} {out : List Env} {s0 : Shared} {H : Hp} {E : XK} {b : Bas} {k : Nat} {ks : List Nat} (zb : Blts mg base) (hk : b.kp.map (·.1) = ks) (room : Room k (A.deeper (envOfC "is_name" (defScope s_is_name) s0.heap.objs.size f cdv))) (grd : (A.deeper (envOfC "is_name" (defScope s_is_name) s0.heap.objs.size f cdv)).guards = some []) {tk_LETTERS : Tok} (gl_LETTERS : mg "LETTERS" = some (.str "abcdefghijklmnopqrstuvwxyz" tk_LETTERS)) {tk_FIGURES : Tok} (gl_FIGURES : mg "FIGURES" = some (.str "0123456789" tk_FIGURES)) {tk_MAX_NAME : Tok} (gl_MAX_NAME : mg "MAX_NAME" = some (.int (8) tk_MAX_NAME)) :
    PSsD (cxOf CX0 P w K mg base n_is_name "is_name" (defScope s_is_name) f cdv A out s0 H E).nox b (defBody s_is_name) (rd_is_name ks) :=
  (ss_cons (s_if (t_w (tw_or (t_not (t_tr (d_b call_isi b_isi rfl zb.isinstance bt_isinstance (a_cons (d_var 0 (pv 0)) (a_cons (d_tyN rfl zb.str bt_str) a_nil))))) (tw_or (t_not (t_chain op_le op_le o_le o_le (d_c (.int 1) pe_int) (d_b call_len b_len rfl zb.len bt_len (a_cons (d_var 0 (pv 0)) a_nil)) (d_globI rfl gl_MAX_NAME))) (tw_or1 (t_cmp (op_notInA (u66 room)) o_inA (d_ix ix_seq o_ix (d_var 0 (pv 0)) (d_c (.int 0) pe_int)) (d_globS rfl gl_LETTERS) rfl))))) (ss_one (s_ret hk (d_c (.bl false) pe_bl))) ss_nil)
      (ss_one (s_ret hk (d_b (cr_all rfl) b_all rfl zb.all bt_all (a_cons (d_lc (own := [("sign", 1)]) hk (by decide) rfl sc_is_name.nd (i_str (d_var 0 (pv 0))) (blk_ok (N := n_is_name) (sc := defScope s_is_name) (by decide +kernel)) (fun s H C cl fp => (g_name (i := 1) hk sc_is_name.nd rfl (.inl rfl))) (fun s H C cl fp => ts_nil) (fun s H C cl fp => (d_or (d_cmp (op_inA (u66 room)) o_inA (d_var 1 (pv 1)) (d_globS rfl gl_LETTERS) rfl) (d_one (d_cmp (op_inA (u66 room)) o_inA (d_var 1 (pv 1)) (d_globS rfl gl_FIGURES) rfl))))) a_nil)))))
theorem dv__law_kneaded {P : Program} {w : World} {K : PySem.W.Frag} {mg : Str → Option Value} {base : Heap} {f : Addr} {cdv : Value} {A : Around} {out : List Env} {s0 : Shared} {H : Hp} {E : XK} {b : Bas} {k : Nat} {ks : List Nat} (zb : Blts mg base) (hk : b.kp.map (·.1) = ks) (room : Room k (A.deeper (envOfC "_law_kneaded" (defScope s__law_kneaded) s0.heap.objs.size f cdv))) (grd : (A.deeper (envOfC "_law_kneaded" (defScope s__law_kneaded) s0.heap.objs.size f cdv)).guards = some []) :
    PSsD (cxOf CX0 P w K mg base n__law_kneaded "_law_kneaded" (defScope s__law_kneaded) f cdv A out s0 H E).nox b (defBody s__law_kneaded) (rd__law_kneaded ks) :=
  (ss_cons (s_set (i := 2) hk sc__law_kneaded.nd rfl (.inl rfl) (d_c (.int 2305843009213693907) pe_int))
      (ss_cons (s_set (i := 3) hk sc__law_kneaded.nd rfl (.inl rfl) (d_op op_mod o_mod (d_ty call_int1 b_int rfl zb.int bt_int (a_cons (d_op op_add3 o_add3 (d_op op_add3 o_add3 (d_op op_mulA o_mulA (d_var 0 (pv 0)) (d_c (.int 2862933555777941757) pe_int)) (d_op op_mulA o_mulA (d_var 1 (pv 1)) (d_c (.int 3037000493) pe_int))) (d_c (.int 29) pe_int)) a_nil)) (d_var 2 (pv 2))))
      (ss_cons (s_for PassesOwn.never rfl (i_range1 rfl zb.range (a_cons (d_c (.int 4) pe_int) a_nil)) (g_name (i := 4) hk sc__law_kneaded.nd rfl (.inl rfl)) (ss_one (s_set (i := 3) hk sc__law_kneaded.nd rfl (.inl rfl) (d_op op_mod o_mod (d_ty call_int1 b_int rfl zb.int bt_int (a_cons (d_op op_add3 o_add3 (d_op op_add3 o_add3 (d_op op_add3 o_add3 (d_op op_mulA o_mulA (d_var 3 (pv 3)) (d_var 3 (pv 3))) (d_op op_mulA o_mulA (d_c (.int 11) pe_int) (d_var 3 (pv 3)))) (d_op op_mulA o_mulA (d_c (.int 4099) pe_int) (d_var 4 (pv 4)))) (d_var 1 (pv 1))) a_nil)) (d_var 2 (pv 2))))))
      (ss_one (s_ret hk (d_op op_add3 o_add3 (d_op op_mulA o_mulA (d_var 3 (pv 3)) (d_var 2 (pv 2))) (d_op op_mod o_mod (d_ty call_int1 b_int rfl zb.int bt_int (a_cons (d_op op_add3 o_add3 (d_op op_mulA o_mulA (d_var 3 (pv 3)) (d_c (.int 69621) pe_int)) (d_var 1 (pv 1))) a_nil)) (d_var 2 (pv 2)))))))))
theorem dv__law_pot_of {P : Program} {w : World} {K : PySem.W.Frag} {mg : Str → Option Value} {base : Heap} {f : Addr} {cdv : Value} {A : Around} {out : List Env} {s0 : Shared} {H : Hp} {E : XK} {b : Bas} {k : Nat} {ks : List Nat} (zb : Blts mg base) (hk : b.kp.map (·.1) = ks) (room : Room k (A.deeper (envOfC "_law_pot_of" (defScope s__law_pot_of) s0.heap.objs.size f cdv))) (grd : (A.deeper (envOfC "_law_pot_of" (defScope s__law_pot_of) s0.heap.objs.size f cdv)).guards = some []) :
    PSsD (cxOf CX0 P w K mg base n__law_pot_of "_law_pot_of" (defScope s__law_pot_of) f cdv A out s0 H E).nox b (defBody s__law_pot_of) (rd__law_pot_of ks) :=
  (ss_cons (s_setLc (i := 2) (own := [("cell", 1)]) hk (by decide) rfl sc__law_pot_of.nd rfl rfl rfl (i_seq hk (d_sl sl_any o_sl (d_var 0 (pv 0)) p_none (p_some (d_c (.int 17) pe_int)))) (blk_ok (N := n__law_pot_of) (sc := defScope s__law_pot_of) (by decide +kernel)) (fun s H C cl fp => (g_name (i := 1) hk sc__law_pot_of.nd rfl (.inl rfl))) (fun s H C cl fp => ts_nil) (fun s H C cl fp => (d_b call_abs b_abs rfl zb.abs bt_abs (a_cons (d_var 1 (pv 1)) a_nil))))
      (ss_cons (s_for PassesOwn.never rfl (i_enum hk rfl zb.enumerate (a_cons (d_sl sl_any o_sl (d_var 0 (pv 0)) (p_some (d_c (.int 17) pe_int)) (p_some (d_c (.int 60) pe_int))) a_nil)) (g_tup rfl (gs_cons (g_name (i := 3) hk sc__law_pot_of.nd rfl (.inl rfl)) (gs_cons (g_name (i := 1) hk sc__law_pot_of.nd rfl (.inl rfl)) gs_nil))) (ss_one (s_put (i := 2) hk (pv 2) (d_op op_mod o_mod (d_var 3 (pv 3)) (d_c (.int 17) pe_int)) (d_op op_add3 o_add3 (d_ix ix_seq o_ix (d_var 2 (pv 2)) (d_op op_mod o_mod (d_var 3 (pv 3)) (d_c (.int 17) pe_int))) (d_b call_abs b_abs rfl zb.abs bt_abs (a_cons (d_var 1 (pv 1)) a_nil))))))
      (ss_one (s_ret hk (d_lst hk (a_cons (d_var 2 (pv 2)) (a_cons (d_c (.int 0) pe_int) (a_cons (d_c (.int 0) pe_int) (a_cons (d_c (.int 0) pe_int) a_nil)))))))))
theorem dv__law_below {P : Program} {w : World} {K : PySem.W.Frag} {mg : Str → Option Value} {base : Heap} {f : Addr} {cdv : Value} {A : Around} {out : List Env} {s0 : Shared} {H : Hp} {E : XK} {b : Bas} {k : Nat} {ks : List Nat} (zb : Blts mg base) (hk : b.kp.map (·.1) = ks) (room : Room k (A.deeper (envOfC "_law_below" (defScope s__law_below) s0.heap.objs.size f cdv))) (grd : (A.deeper (envOfC "_law_below" (defScope s__law_below) s0.heap.objs.size f cdv)).guards = some []) {sp__law_kneaded : DSp} {k__law_kneaded : Nat} (c__law_kneaded : KnownP P w K mg base k__law_kneaded "_law_kneaded" sp__law_kneaded) (h__law_kneaded : k__law_kneaded ≤ k) :
    PSsD (cxOf CX0 P w K mg base n__law_below "_law_below" (defScope s__law_below) f cdv A out s0 H E).nox b (defBody s__law_below) (rd__law_below ks sp__law_kneaded) :=
  (ss_cons (s_if (t_cmp op_lt o_lt (d_ix ix_seq o_ix (d_var 0 (pv 0)) (d_c (.int 3) pe_int)) (d_var 1 (pv 1)) rfl) (ss_cons (s_par2 (i := 2) (j := 3) hk rfl sc__law_below.nd rfl rfl (by decide) rfl rfl (a_cons (d_ix ix_seq o_ix (d_var 0 (pv 0)) (d_c (.int 0) pe_int)) (a_cons (d_ix ix_seq o_ix (d_var 0 (pv 0)) (d_c (.int 1) pe_int)) a_nil)) rfl)
      (ss_cons (s_set (i := 4) hk sc__law_below.nd rfl (.inl rfl) (d_if (t_cmp (op_neA (u64 room)) o_eqA (d_var 2 (pv 2)) (d_lst hk a_nil) rfl) (d_ix ix_seq o_ix (d_var 2 (pv 2)) (d_op op_mod o_mod (d_var 3 (pv 3)) (d_b call_len b_len rfl zb.len bt_len (a_cons (d_var 2 (pv 2)) a_nil)))) (d_c (.int 0) pe_int)))
      (ss_cons (s_if (t_w (tw_or (t_cmp op_ge o_ge (d_var 3 (pv 3)) (d_b call_len b_len rfl zb.len bt_len (a_cons (d_var 2 (pv 2)) a_nil)) rfl) (tw_or1 (t_cmp op_lt o_lt (d_var 4 (pv 4)) (d_op op_pow o_pow (d_c (.int 10) pe_int) (d_c (.int 16) pe_int)) rfl)))) (ss_one (s_set (i := 4) hk sc__law_below.nd rfl (.inl rfl) (d_callP hk c__law_kneaded (room.mono h__law_kneaded) grd rfl (a_cons (d_op op_mod o_mod (d_ty call_int1 b_int rfl zb.int bt_int (a_cons (d_var 4 (pv 4)) a_nil)) (d_c (.int 982451629) pe_int)) (a_cons (d_var 3 (pv 3)) a_nil))))) ss_nil)
      (ss_cons (s_put (i := 0) hk (pv 0) (d_c (.int 1) pe_int) (d_op op_add3 o_add3 (d_var 3 (pv 3)) (d_c (.int 1) pe_int)))
      (ss_cons (s_put (i := 0) hk (pv 0) (d_c (.int 2) pe_int) (d_var 4 (pv 4)))
      (ss_one (s_put (i := 0) hk (pv 0) (d_c (.int 3) pe_int) (d_var 4 (pv 4))))))))) ss_nil)
      (ss_cons (s_set (i := 5) hk sc__law_below.nd rfl (.inl rfl) (d_op op_mod o_mod (d_ty call_int1 b_int rfl zb.int bt_int (a_cons (d_ix ix_seq o_ix (d_var 0 (pv 0)) (d_c (.int 2) pe_int)) a_nil)) (d_var 1 (pv 1))))
      (ss_cons (s_put (i := 0) hk (pv 0) (d_c (.int 2) pe_int) (d_op op_fdivW o_div (d_ix ix_seq o_ix (d_var 0 (pv 0)) (d_c (.int 2) pe_int)) (d_var 1 (pv 1))))
      (ss_cons (s_put (i := 0) hk (pv 0) (d_c (.int 3) pe_int) (d_op op_fdivW o_div (d_ix ix_seq o_ix (d_var 0 (pv 0)) (d_c (.int 3) pe_int)) (d_var 1 (pv 1))))
      (ss_one (s_ret hk (d_var 5 (pv 5))))))))
theorem dv__law_pick {P : Program} {w : World} {K : PySem.W.Frag} {mg : Str → Option Value} {base : Heap} {f : Addr} {cdv : Value} {A : Around} {out : List Env} {s0 : Shared} {H : Hp} {E : XK} {b : Bas} {k : Nat} {ks : List Nat} (zb : Blts mg base) (hk : b.kp.map (·.1) = ks) (room : Room k (A.deeper (envOfC "_law_pick" (defScope s__law_pick) s0.heap.objs.size f cdv))) (grd : (A.deeper (envOfC "_law_pick" (defScope s__law_pick) s0.heap.objs.size f cdv)).guards = some []) {sp__law_below : DSp} {k__law_below : Nat} (c__law_below : KnownP P w K mg base k__law_below "_law_below" sp__law_below) (h__law_below : k__law_below ≤ k) :
    PSsD (cxOf CX0 P w K mg base n__law_pick "_law_pick" (defScope s__law_pick) f cdv A out s0 H E).nox b (defBody s__law_pick) (rd__law_pick ks sp__law_below) :=
  (ss_one (s_ret hk (d_ix ix_seq o_ix (d_var 1 (pv 1)) (d_callRP hk c__law_below (room.mono h__law_below) grd rfl (a_cons (d_var 0 (pv 0)) (a_cons (d_b call_len b_len rfl zb.len bt_len (a_cons (d_var 1 (pv 1)) a_nil)) a_nil))))))
theorem dv__law_made {P : Program} {w : World} {K : PySem.W.Frag} {mg : Str → Option Value} {base : Heap} {f : Addr} {cdv : Value} {A : Around} {out : List Env} {s0 : Shared} {H : Hp} {E : XK} {b : Bas} {k : Nat} {ks : List Nat} (zb : Blts mg base) (hk : b.kp.map (·.1) = ks) (room : Room k (A.deeper (envOfC "_law_made" (defScope s__law_made) s0.heap.objs.size f cdv))) (grd : (A.deeper (envOfC "_law_made" (defScope s__law_made) s0.heap.objs.size f cdv)).guards = some []) {NK : Addr} {NS : Addr} {NT : Addr} {NW : Addr} {SP : Addr} {TM : Addr} {XA : Addr} {XB : Addr} {XC : Addr} {XD1 : Addr} {XE1 : Addr} {XF : Addr} {XG : Addr} {XH : Addr} {XI : Addr} {XJ : Addr} (er_NoTable : ErrF P w K mg base "NoTable" NT "fault" okAV) (hr_NoTable : 2 ≤ k) (er_NoRow : ErrF P w K mg base "NoRow" NW "place" okIV) (hr_NoRow : 2 ≤ k) (er_InvalidCommand : ErrC K XJ) (er_Mismatch : ErrC K XI) (er_NoMark : ErrC K XH) (er_NoEra : ErrC K XG) (er_NoNumber : ErrC K XF) (er_NoName : ErrC K XE1) (er_NoRecord : ErrC K XD1) (er_NoTree : ErrC K XC) (er_NoLayout : ErrC K XB) (er_NoKind : ErrC K XA) (er_NotLike : ErrF P w K mg base "NotLike" NK "answer" okAV) (hr_NotLike : 2 ≤ k) (er_NoStep : ErrF P w K mg base "NoStep" NS "place" okIV) (hr_NoStep : 2 ≤ k) (er_SyntaxProblem : ErrF2 P w K mg base "SyntaxProblem" SP "line" "column" fun y1 y2 => okIV y1 ∧ okIV y2) (hr_SyntaxProblem : 2 ≤ k) (er_TooMany : ErrF P w K mg base "TooMany" TM "limit" okIV) (hr_TooMany : 2 ≤ k) (me_InvalidCommand : mg "InvalidCommand" = some (.ref XJ)) (me_Mismatch : mg "Mismatch" = some (.ref XI)) (me_NoMark : mg "NoMark" = some (.ref XH)) (me_NoEra : mg "NoEra" = some (.ref XG)) (me_NoNumber : mg "NoNumber" = some (.ref XF)) (me_NoName : mg "NoName" = some (.ref XE1)) (me_NoRecord : mg "NoRecord" = some (.ref XD1)) (me_NoTree : mg "NoTree" = some (.ref XC)) (me_NoLayout : mg "NoLayout" = some (.ref XB)) (me_NoKind : mg "NoKind" = some (.ref XA)) :
    PSsD (cxOf CX0 P w K mg base n__law_made "_law_made" (defScope s__law_made) f cdv A out s0 H E).nox b (defBody s__law_made) (rd__law_made ks NK NS NT NW SP TM XA XB XC XD1 XE1 XF XG XH XI XJ) :=
  (ss_cons (s_set (i := 2) hk sc__law_made.nd rfl (.inl rfl) (d_lst hk (a_cons (d_newF hk er_TooMany (room.mono hr_TooMany) okI_v rfl (a_cons (d_var 0 (pv 0)) a_nil)) (a_cons (d_newG hk er_SyntaxProblem (room.mono hr_SyntaxProblem) okI_v rfl (a_cons (d_var 1 (pv 1)) (a_cons (d_var 0 (pv 0)) a_nil))) (a_cons (d_newF hk er_NoStep (room.mono hr_NoStep) okI_v rfl (a_cons (d_var 1 (pv 1)) a_nil)) (a_cons (d_newF hk er_NotLike (room.mono hr_NotLike) okA_v rfl (a_cons (d_tup hk (a_cons (d_c (.str "constant") pe_str) a_nil)) a_nil)) (a_cons (d_new0 er_NoKind me_NoKind rfl) a_nil)))))))
      (ss_cons (s_set (i := 2) hk sc__law_made.nd rfl (.inl rfl) (d_op op_add3 o_add3 (d_var 2 (pv 2)) (d_lst hk (a_cons (d_new0 er_NoLayout me_NoLayout rfl) (a_cons (d_new0 er_NoTree me_NoTree rfl) (a_cons (d_new0 er_NoRecord me_NoRecord rfl) (a_cons (d_new0 er_NoName me_NoName rfl) (a_cons (d_new0 er_NoNumber me_NoNumber rfl) (a_cons (d_new0 er_NoEra me_NoEra rfl) (a_cons (d_new0 er_NoMark me_NoMark rfl) a_nil))))))))))
      (ss_one (s_ret hk (d_op op_add3 o_add3 (d_var 2 (pv 2)) (d_lst hk (a_cons (d_new0 er_Mismatch me_Mismatch rfl) (a_cons (d_new0 er_InvalidCommand me_InvalidCommand rfl) (a_cons (d_newF hk er_NoRow (room.mono hr_NoRow) okI_v rfl (a_cons (d_var 1 (pv 1)) a_nil)) (a_cons (d_newF hk er_NoTable (room.mono hr_NoTable) okA_v rfl (a_cons (d_tup hk (a_cons (d_c (.str "none") pe_str) (a_cons (d_var 0 (pv 0)) a_nil))) a_nil)) a_nil))))))))))
theorem dv__law_classes {P : Program} {w : World} {K : PySem.W.Frag} {mg : Str → Option Value} {base : Heap} {f : Addr} {cdv : Value} {A : Around} {out : List Env} {s0 : Shared} {H : Hp} {E : XK} {b : Bas} {k : Nat} {ks : List Nat} (zb : Blts mg base) (hk : b.kp.map (·.1) = ks) (room : Room k (A.deeper (envOfC "_law_classes" (defScope s__law_classes) s0.heap.objs.size f cdv))) (grd : (A.deeper (envOfC "_law_classes" (defScope s__law_classes) s0.heap.objs.size f cdv)).guards = some []) {NK : Addr} {NS : Addr} {NT : Addr} {NW : Addr} {SP : Addr} {TM : Addr} {XA : Addr} {XB : Addr} {XC : Addr} {XD1 : Addr} {XE1 : Addr} {XF : Addr} {XG : Addr} {XH : Addr} {XI : Addr} {XJ : Addr} (me_NoTable : mg "NoTable" = some (.ref NT)) (me_NoRow : mg "NoRow" = some (.ref NW)) (me_InvalidCommand : mg "InvalidCommand" = some (.ref XJ)) (me_Mismatch : mg "Mismatch" = some (.ref XI)) (me_NoMark : mg "NoMark" = some (.ref XH)) (me_NoEra : mg "NoEra" = some (.ref XG)) (me_NoNumber : mg "NoNumber" = some (.ref XF)) (me_NoName : mg "NoName" = some (.ref XE1)) (me_NoRecord : mg "NoRecord" = some (.ref XD1)) (me_NoTree : mg "NoTree" = some (.ref XC)) (me_NoLayout : mg "NoLayout" = some (.ref XB)) (me_NoKind : mg "NoKind" = some (.ref XA)) (me_NotLike : mg "NotLike" = some (.ref NK)) (me_NoStep : mg "NoStep" = some (.ref NS)) (me_SyntaxProblem : mg "SyntaxProblem" = some (.ref SP)) (me_TooMany : mg "TooMany" = some (.ref TM)) :
    PSsD (cxOf CX0 P w K mg base n__law_classes "_law_classes" (defScope s__law_classes) f cdv A out s0 H E).nox b (defBody s__law_classes) (rd__law_classes ks (emK K) (ikK K) NK NS NT NW SP TM XA XB XC XD1 XE1 XF XG XH XI XJ) :=
  (ss_cons (s_set (i := 1) hk sc__law_classes.nd rfl (.inl rfl) (d_lst hk (a_cons (d_b call_isX b_isX rfl zb.isinstance bt_isinstance (a_cons (d_var 0 (pv 0)) (a_cons (d_globC rfl me_TooMany) a_nil))) (a_cons (d_b call_isX b_isX rfl zb.isinstance bt_isinstance (a_cons (d_var 0 (pv 0)) (a_cons (d_globC rfl me_SyntaxProblem) a_nil))) (a_cons (d_b call_isX b_isX rfl zb.isinstance bt_isinstance (a_cons (d_var 0 (pv 0)) (a_cons (d_globC rfl me_NoStep) a_nil))) a_nil)))))
      (ss_cons (s_set (i := 1) hk sc__law_classes.nd rfl (.inl rfl) (d_op op_add3 o_add3 (d_var 1 (pv 1)) (d_lst hk (a_cons (d_b call_isX b_isX rfl zb.isinstance bt_isinstance (a_cons (d_var 0 (pv 0)) (a_cons (d_globC rfl me_NotLike) a_nil))) (a_cons (d_b call_isX b_isX rfl zb.isinstance bt_isinstance (a_cons (d_var 0 (pv 0)) (a_cons (d_globC rfl me_NoKind) a_nil))) (a_cons (d_b call_isX b_isX rfl zb.isinstance bt_isinstance (a_cons (d_var 0 (pv 0)) (a_cons (d_globC rfl me_NoLayout) a_nil))) a_nil))))))
      (ss_cons (s_set (i := 1) hk sc__law_classes.nd rfl (.inl rfl) (d_op op_add3 o_add3 (d_var 1 (pv 1)) (d_lst hk (a_cons (d_b call_isX b_isX rfl zb.isinstance bt_isinstance (a_cons (d_var 0 (pv 0)) (a_cons (d_globC rfl me_NoTree) a_nil))) (a_cons (d_b call_isX b_isX rfl zb.isinstance bt_isinstance (a_cons (d_var 0 (pv 0)) (a_cons (d_globC rfl me_NoRecord) a_nil))) (a_cons (d_b call_isX b_isX rfl zb.isinstance bt_isinstance (a_cons (d_var 0 (pv 0)) (a_cons (d_globC rfl me_NoName) a_nil))) a_nil))))))
      (ss_cons (s_set (i := 1) hk sc__law_classes.nd rfl (.inl rfl) (d_op op_add3 o_add3 (d_var 1 (pv 1)) (d_lst hk (a_cons (d_b call_isX b_isX rfl zb.isinstance bt_isinstance (a_cons (d_var 0 (pv 0)) (a_cons (d_globC rfl me_NoNumber) a_nil))) (a_cons (d_b call_isX b_isX rfl zb.isinstance bt_isinstance (a_cons (d_var 0 (pv 0)) (a_cons (d_globC rfl me_NoEra) a_nil))) (a_cons (d_b call_isX b_isX rfl zb.isinstance bt_isinstance (a_cons (d_var 0 (pv 0)) (a_cons (d_globC rfl me_NoMark) a_nil))) a_nil))))))
      (ss_cons (s_set (i := 1) hk sc__law_classes.nd rfl (.inl rfl) (d_op op_add3 o_add3 (d_var 1 (pv 1)) (d_lst hk (a_cons (d_b call_isX b_isX rfl zb.isinstance bt_isinstance (a_cons (d_var 0 (pv 0)) (a_cons (d_globC rfl me_Mismatch) a_nil))) (a_cons (d_b call_isX b_isX rfl zb.isinstance bt_isinstance (a_cons (d_var 0 (pv 0)) (a_cons (d_globC rfl me_InvalidCommand) a_nil))) a_nil)))))
      (ss_one (s_ret hk (d_op op_add3 o_add3 (d_var 1 (pv 1)) (d_lst hk (a_cons (d_b call_isX b_isX rfl zb.isinstance bt_isinstance (a_cons (d_var 0 (pv 0)) (a_cons (d_globC rfl me_NoRow) a_nil))) (a_cons (d_b call_isX b_isX rfl zb.isinstance bt_isinstance (a_cons (d_var 0 (pv 0)) (a_cons (d_globC rfl me_NoTable) a_nil))) a_nil)))))))))))
theorem dv__law_is_named {P : Program} {w : World} {K : PySem.W.Frag} {mg : Str → Option Value} {base : Heap} {f : Addr} {cdv : Value} {A : Around} {out : List Env} {s0 : Shared} {H : Hp} {E : XK} {b : Bas} {k : Nat} {ks : List Nat} (zb : Blts mg base) (hk : b.kp.map (·.1) = ks) (room : Room k (A.deeper (envOfC "_law_is_named" (defScope s__law_is_named) s0.heap.objs.size f cdv))) (grd : (A.deeper (envOfC "_law_is_named" (defScope s__law_is_named) s0.heap.objs.size f cdv)).guards = some []) :
    PSsD (cxOf CX0 P w K mg base n__law_is_named "_law_is_named" (defScope s__law_is_named) f cdv A out s0 H E).nox b (defBody s__law_is_named) (rd__law_is_named ks) :=
  (ss_cons (s_parC (i := 1) (j := 2) hk rfl sc__law_is_named.nd rfl rfl (.inr rfl) (.inr rfl) (a_cons (d_c (.str "abcdefghijklmnopqrstuvwxyz") pe_str) (a_cons (d_c (.str "0123456789") pe_str) a_nil)))
      (ss_cons (s_if (t_w (tw_or (t_not (t_chain op_le op_le o_le o_le (d_c (.int 1) pe_int) (d_b call_len b_len rfl zb.len bt_len (a_cons (d_var 0 (pv 0)) a_nil)) (d_c (.int 8) pe_int))) (tw_or1 (t_cmp (op_notInA (u66 room)) o_inA (d_ix ix_seq o_ix (d_var 0 (pv 0)) (d_c (.int 0) pe_int)) (d_var 1 (pv 1)) rfl)))) (ss_one (s_ret hk (d_c (.bl false) pe_bl))) ss_nil)
      (ss_one (s_ret hk (d_cmp (op_eqA (u64 room)) o_eqA (d_lc (own := [("sign", 3)]) hk (by decide) rfl sc__law_is_named.nd (i_str (d_var 0 (pv 0))) (blk_ok (N := n__law_is_named) (sc := defScope s__law_is_named) (by decide +kernel)) (fun s H C cl fp => (g_name (i := 3) hk sc__law_is_named.nd rfl (.inl rfl))) (fun s H C cl fp => (ts_one (t_w (tw_and (t_cmp (op_notInA (u66 room)) o_inA (d_var 3 (pv 3)) (d_var 1 (pv 1)) rfl) (tw_and1 (t_cmp (op_notInA (u66 room)) o_inA (d_var 3 (pv 3)) (d_var 2 (pv 2)) rfl)))))) (fun s H C cl fp => (d_var 3 (pv 3)))) (d_lst hk a_nil) rfl)))))
theorem dv__law_words {P : Program} {w : World} {K : PySem.W.Frag} {mg : Str → Option Value} {base : Heap} {f : Addr} {cdv : Value} {A : Around} {out : List Env} {s0 : Shared} {H : Hp} {E : XK} {b : Bas} {k : Nat} {ks : List Nat} (zb : Blts mg base) (hk : b.kp.map (·.1) = ks) (room : Room k (A.deeper (envOfC "_law_words" (defScope s__law_words) s0.heap.objs.size f cdv))) (grd : (A.deeper (envOfC "_law_words" (defScope s__law_words) s0.heap.objs.size f cdv)).guards = some []) {sp__law_pick : DSp} {k__law_pick : Nat} (c__law_pick : KnownP P w K mg base k__law_pick "_law_pick" sp__law_pick) (h__law_pick : k__law_pick ≤ k) {sp__law_below : DSp} {k__law_below : Nat} (c__law_below : KnownP P w K mg base k__law_below "_law_below" sp__law_below) (h__law_below : k__law_below ≤ k) :
    PSsD (cxOf CX0 P w K mg base n__law_words "_law_words" (defScope s__law_words) f cdv A out s0 H E).nox b (defBody s__law_words) (rd__law_words ks sp__law_pick sp__law_below) :=
  (ss_cons (s_set (i := 1) hk sc__law_words.nd rfl (.inr rfl) (d_c (.str "abcdefghijklmnopqrstuvwxyz0123456789") pe_str))
      (ss_cons (s_set (i := 2) hk sc__law_words.nd rfl (.inl rfl) (d_lst hk (a_cons (d_c (.str "") pe_str) (a_cons (d_c (.str "a") pe_str) (a_cons (d_c (.str "z9") pe_str) (a_cons (d_c (.str "9") pe_str) (a_cons (d_op op_mulB o_mulB (d_c (.str "a") pe_str) (d_c (.int 8) pe_int)) (a_cons (d_op op_mulB o_mulB (d_c (.str "a") pe_str) (d_c (.int 9) pe_int)) (a_cons (d_c (.str "A") pe_str) (a_cons (d_c (.str "aB") pe_str) (a_cons (d_c (.str "a_b") pe_str) (a_cons (d_c (.str " a") pe_str) (a_cons (d_c (.str "a ") pe_str) (a_cons (d_c (.str "a\n") pe_str) (a_cons (d_c (.str "t") pe_str) (a_cons (d_c (.str "_") pe_str) (a_cons (d_c (.str "a.b") pe_str) (a_cons (d_c (.str "0a") pe_str) a_nil))))))))))))))))))
      (ss_cons (s_for PassesOwn.never rfl (i_range1 rfl zb.range (a_cons (d_c (.int 10) pe_int) a_nil)) (g_name (i := 3) hk sc__law_words.nd rfl (.inl rfl)) (ss_cons (s_setLc (i := 5) (own := [("spot", 4)]) hk (by decide) rfl sc__law_words.nd rfl rfl rfl (i_range1 rfl zb.range (a_cons (d_op op_add3 o_add3 (d_c (.int 1) pe_int) (d_callRP hk c__law_below (room.mono h__law_below) grd rfl (a_cons (d_var 0 (pv 0)) (a_cons (d_c (.int 9) pe_int) a_nil)))) a_nil)) (blk_ok (N := n__law_words) (sc := defScope s__law_words) (by decide +kernel)) (fun s H C cl fp => (g_name (i := 4) hk sc__law_words.nd rfl (.inl rfl))) (fun s H C cl fp => ts_nil) (fun s H C cl fp => (d_callRP hk c__law_pick (room.mono h__law_pick) grd rfl (a_cons (d_var 0 (pv 0)) (a_cons (d_ty (call_listA rfl) b_listA rfl zb.list bt_list (a_cons (d_var 1 (pv 1)) a_nil)) a_nil)))))
      (ss_cons (s_expr (d_mut (i := 2) hk m_append mt_append F.plainAttrs_list F.slot_list_append F.type_list_append (pv 2) (a_cons (d_join (d_c (.str "") pe_str) (d_var 5 (pv 5))) a_nil)))
      (ss_cons (s_set (i := 4) hk sc__law_words.nd rfl (.inl rfl) (d_callRP hk c__law_below (room.mono h__law_below) grd rfl (a_cons (d_var 0 (pv 0)) (a_cons (d_b call_len b_len rfl zb.len bt_len (a_cons (d_var 5 (pv 5)) a_nil)) a_nil))))
      (ss_cons (s_set (i := 6) hk sc__law_words.nd rfl (.inl rfl) (d_op op_add3 o_add3 (d_ty (call_listA rfl) b_listA rfl zb.list bt_list (a_cons (d_c (.str "!#$&'()*+,-./:;<=>?\x40[\\]^_`{|}~ ABCDEFGHIJKLMNOPQRSTUVWXYZ") pe_str) a_nil)) (d_lst hk (a_cons (d_c (.str "\"") pe_str) a_nil))))
      (ss_cons (s_set (i := 6) hk sc__law_words.nd rfl (.inl rfl) (d_callRP hk c__law_pick (room.mono h__law_pick) grd rfl (a_cons (d_var 0 (pv 0)) (a_cons (d_op op_add3 o_add3 (d_var 6 (pv 6)) (d_lst hk (a_cons (d_c (.str "\n") pe_str) (a_cons (d_c (.str "\t") pe_str) (a_cons (d_c (.str "") pe_str) a_nil))))) a_nil))))
      (ss_one (s_expr (d_mut (i := 2) hk m_append mt_append F.plainAttrs_list F.slot_list_append F.type_list_append (pv 2) (a_cons (d_join (d_c (.str "") pe_str) (d_op op_add3 o_add3 (d_op op_add3 o_add3 (d_sl sl_any o_sl (d_var 5 (pv 5)) p_none (p_some (d_var 4 (pv 4)))) (d_lst hk (a_cons (d_var 6 (pv 6)) a_nil))) (d_sl sl_any o_sl (d_var 5 (pv 5)) (p_some (d_op op_add3 o_add3 (d_var 4 (pv 4)) (d_c (.int 1) pe_int))) p_none))) a_nil))))))))))
      (ss_one (s_ret hk (d_var 2 (pv 2)))))))
theorem dv_law {P : Program} {w : World} {K : PySem.W.Frag} {mg : Str → Option Value} {base : Heap} {f : Addr} {cdv : Value} {A : Around} {out : List Env} {s0 : Shared} {H : Hp} {E : XK} {b : Bas} {k : Nat} {ks : List Nat} (zb : Blts mg base) (hk : b.kp.map (·.1) = ks) (room : Room k (A.deeper (envOfC "law" (defScope s_law) s0.heap.objs.size f cdv))) (grd : (A.deeper (envOfC "law" (defScope s_law) s0.heap.objs.size f cdv)).guards = some []) {LE : Addr} {sp_is_integer : DSp} {k_is_integer : Nat} (c_is_integer : KnownP P w K mg base k_is_integer "is_integer" sp_is_integer) (h_is_integer : k_is_integer ≤ k) {sp_is_name : DSp} {k_is_name : Nat} (c_is_name : KnownP P w K mg base k_is_name "is_name" sp_is_name) (h_is_name : k_is_name ≤ k) {sp__law_words : DSp} {k__law_words : Nat} (c__law_words : KnownP P w K mg base k__law_words "_law_words" sp__law_words) (h__law_words : k__law_words ≤ k) {sp__law_is_named : DSp} {k__law_is_named : Nat} (c__law_is_named : KnownP P w K mg base k__law_is_named "_law_is_named" sp__law_is_named) (h__law_is_named : k__law_is_named ≤ k) {sp__law_classes : DSp} {k__law_classes : Nat} (c__law_classes : KnownP P w K mg base k__law_classes "_law_classes" sp__law_classes) (h__law_classes : k__law_classes ≤ k) {sp__law_made : DSp} {k__law_made : Nat} (c__law_made : KnownP P w K mg base k__law_made "_law_made" sp__law_made) (h__law_made : k__law_made ≤ k) {sp__law_below : DSp} {k__law_below : Nat} (c__law_below : KnownP P w K mg base k__law_below "_law_below" sp__law_below) (h__law_below : k__law_below ≤ k) {sp__law_pot_of : DSp} {k__law_pot_of : Nat} (c__law_pot_of : KnownP P w K mg base k__law_pot_of "_law_pot_of" sp__law_pot_of) (h__law_pot_of : k__law_pot_of ≤ k) (me_LayoutError : mg "LayoutError" = some (.ref LE)) :
    PSsD (cxOf CX0 P w K mg base n_law "law" (defScope s_law) f cdv A out s0 H E).nox b (defBody s_law) (rd_law ks (emK K) (ikK K) (xfK K) LE sp_is_integer sp_is_name sp__law_words sp__law_is_named sp__law_classes sp__law_made sp__law_below sp__law_pot_of) :=
  (ss_cons (s_set (i := 1) hk sc_law.nd rfl (.inl rfl) (d_callP hk c__law_pot_of (room.mono h__law_pot_of) grd rfl (a_cons (d_var 0 (pv 0)) a_nil)))
      (ss_cons (s_par2 (i := 2) (j := 3) hk rfl sc_law.nd rfl rfl (by decide) rfl rfl (a_cons (d_callRP hk c__law_below (room.mono h__law_below) grd rfl (a_cons (d_var 1 (pv 1)) (a_cons (d_op op_pow o_pow (d_c (.int 10) pe_int) (d_c (.int 6) pe_int)) a_nil))) (a_cons (d_op op_sub o_sub (d_callRP hk c__law_below (room.mono h__law_below) grd rfl (a_cons (d_var 1 (pv 1)) (a_cons (d_op op_pow o_pow (d_c (.int 10) pe_int) (d_c (.int 4) pe_int)) a_nil))) (d_c (.int 1) pe_int)) a_nil)) rfl)
      (ss_cons (s_set (i := 4) hk sc_law.nd rfl (.inl rfl) (d_callP hk c__law_made (room.mono h__law_made) grd rfl (a_cons (d_var 2 (pv 2)) (a_cons (d_var 3 (pv 3)) a_nil))))
      (ss_cons (s_for PassesOwn.never rfl (i_enum hk rfl zb.enumerate (a_cons (d_var 4 (pv 4)) a_nil)) (g_tup rfl (gs_cons (g_name (i := 5) hk sc_law.nd rfl (.inr rfl)) (gs_cons (g_name (i := 6) hk sc_law.nd rfl (.inl rfl)) gs_nil))) (ss_cons (s_if (t_cmp (op_neA (u64 room)) o_eqA (d_callP hk c__law_classes (room.mono h__law_classes) grd rfl (a_cons (d_var 6 (pv 6)) a_nil)) (d_lc (own := [("spot", 11)]) hk (by decide) rfl sc_law.nd (i_range1 rfl zb.range (a_cons (d_b call_len b_len rfl zb.len bt_len (a_cons (d_var 4 (pv 4)) a_nil)) a_nil)) (blk_ok (N := n_law) (sc := defScope s_law) (by decide +kernel)) (fun s H C cl fp => (g_name (i := 11) hk sc_law.nd rfl (.inl rfl))) (fun s H C cl fp => ts_nil) (fun s H C cl fp => (d_cmp (op_eqA (u64 room)) o_eqA (d_var 11 (pv 11)) (d_var 5 (pv 5)) rfl))) rfl) (ss_one (s_ret hk (d_c (.bl false) pe_bl))) ss_nil)
      (ss_one (s_if (t_w (tw_or (t_not (t_tr (d_b call_isX b_isX rfl zb.isinstance bt_isinstance (a_cons (d_var 6 (pv 6)) (a_cons (d_globC rfl me_LayoutError) a_nil))))) (tw_or1 (t_not (t_tr (d_b call_isX b_isX rfl zb.isinstance bt_isinstance (a_cons (d_var 6 (pv 6)) (a_cons (d_tyN rfl zb.ValueError bt_ValueError) a_nil)))))))) (ss_one (s_ret hk (d_c (.bl false) pe_bl))) ss_nil))))
      (ss_cons (s_set (i := 7) hk sc_law.nd rfl (.inl rfl) (d_lst hk (a_cons (d_fx (d_ix ix_seq o_ix (d_var 4 (pv 4)) (d_c (.int 0) pe_int))) (a_cons (d_fx (d_ix ix_seq o_ix (d_var 4 (pv 4)) (d_c (.int 1) pe_int))) (a_cons (d_fx (d_ix ix_seq o_ix (d_var 4 (pv 4)) (d_c (.int 1) pe_int))) (a_cons (d_fx (d_ix ix_seq o_ix (d_var 4 (pv 4)) (d_c (.int 2) pe_int))) (a_cons (d_fx (d_ix ix_seq o_ix (d_var 4 (pv 4)) (d_c (.int 3) pe_int))) a_nil)))))))
      (ss_cons (s_if (t_cmp (op_neA (u64 room)) o_eqA (d_b (cr_repr zb.mods grd (u64 room)) b_repr rfl zb.repr bt_repr (a_cons (d_var 7 (pv 7)) a_nil)) (d_b (cr_repr zb.mods grd (u64 room)) b_repr rfl zb.repr bt_repr (a_cons (d_lst hk (a_cons (d_var 2 (pv 2)) (a_cons (d_var 3 (pv 3)) (a_cons (d_var 2 (pv 2)) (a_cons (d_var 3 (pv 3)) (a_cons (d_tup hk (a_cons (d_c (.str "constant") pe_str) a_nil)) a_nil)))))) a_nil)) rfl) (ss_one (s_ret hk (d_c (.bl false) pe_bl))) ss_nil)
      (ss_cons (s_if (t_cmp (op_neA (u64 room)) o_eqA (d_b (cr_repr zb.mods grd (u64 room)) b_repr rfl zb.repr bt_repr (a_cons (d_lst hk (a_cons (d_fx (d_ix ix_seq o_ix (d_var 4 (pv 4)) (d_c (.int 14) pe_int))) (a_cons (d_fx (d_ix ix_seq o_ix (d_var 4 (pv 4)) (d_c (.int 15) pe_int))) a_nil))) a_nil)) (d_b (cr_repr zb.mods grd (u64 room)) b_repr rfl zb.repr bt_repr (a_cons (d_lst hk (a_cons (d_var 3 (pv 3)) (a_cons (d_tup hk (a_cons (d_c (.str "none") pe_str) (a_cons (d_var 2 (pv 2)) a_nil))) a_nil))) a_nil)) rfl) (ss_one (s_ret hk (d_c (.bl false) pe_bl))) ss_nil)
      (ss_cons (s_for PassesOwn.never rfl (i_seq hk (d_callRP hk c__law_words (room.mono h__law_words) grd rfl (a_cons (d_var 1 (pv 1)) a_nil))) (g_name (i := 8) hk sc_law.nd rfl (.inl rfl)) (ss_one (s_if (t_cmp (op_neA (u64 room)) o_eqA (d_b (cr_repr zb.mods grd (u64 room)) b_repr rfl zb.repr bt_repr (a_cons (d_callP hk c_is_name (room.mono h_is_name) grd rfl (a_cons (d_var 8 (pv 8)) a_nil)) a_nil)) (d_b (cr_repr zb.mods grd (u64 room)) b_repr rfl zb.repr bt_repr (a_cons (d_callP hk c__law_is_named (room.mono h__law_is_named) grd rfl (a_cons (d_var 8 (pv 8)) a_nil)) a_nil)) rfl) (ss_one (s_ret hk (d_c (.bl false) pe_bl))) ss_nil)))
      (ss_cons (s_set (i := 9) hk sc_law.nd rfl (.inl rfl) (d_lst hk (a_cons (d_c (.int 0) pe_int) (a_cons (d_op op_sub o_sub (d_c (.int 0) pe_int) (d_c (.int 1) pe_int)) (a_cons (d_op op_pow o_pow (d_c (.int 10) pe_int) (d_c (.int 30) pe_int)) (a_cons (d_c (.bl true) pe_bl) (a_cons (d_c (.bl false) pe_bl) (a_cons (d_c .non pe_non) (a_cons (d_c (.str "1") pe_str) (a_cons (d_c (.str "") pe_str) (a_cons (d_lst hk a_nil) (a_cons d_dct0 (a_cons (d_tup hk a_nil) (a_cons (d_tup hk (a_cons (d_c (.int 1) pe_int) a_nil)) (a_cons (d_lst hk (a_cons (d_c (.str "a") pe_str) a_nil)) (a_cons (d_tup hk (a_cons (d_c (.str "a") pe_str) a_nil)) (a_cons (d_var 2 (pv 2)) a_nil)))))))))))))))))
      (ss_cons (s_for PassesOwn.never rfl (i_seq hk (d_var 9 (pv 9))) (g_name (i := 10) hk sc_law.nd rfl (.inl rfl)) (ss_cons (s_if (t_cmp op_notA o_is (d_callP hk c_is_name (room.mono h_is_name) grd rfl (a_cons (d_var 10 (pv 10)) a_nil)) (d_c (.bl false) pe_bl) rfl) (ss_one (s_ret hk (d_c (.bl false) pe_bl))) ss_nil)
      (ss_one (s_if (t_cmp (op_neA (u64 room)) o_eqA (d_b (cr_repr zb.mods grd (u64 room)) b_repr rfl zb.repr bt_repr (a_cons (d_callP hk c_is_integer (room.mono h_is_integer) grd rfl (a_cons (d_var 10 (pv 10)) a_nil)) a_nil)) (d_b (cr_repr zb.mods grd (u64 room)) b_repr rfl zb.repr bt_repr (a_cons (d_and (d_b call_isi b_isi rfl zb.isinstance bt_isinstance (a_cons (d_var 10 (pv 10)) (a_cons (d_tyN rfl zb.int bt_int) a_nil))) (d_one (d_not (d_b call_isi b_isi rfl zb.isinstance bt_isinstance (a_cons (d_var 10 (pv 10)) (a_cons (d_tyN rfl zb.bool bt_bool) a_nil)))))) a_nil)) rfl) (ss_one (s_ret hk (d_c (.bl false) pe_bl))) ss_nil))))
      (ss_one (s_ret hk (d_c (.bl true) pe_bl)))))))))))))
theorem known {P : Program} {w : World} {K : PySem.W.Frag} {mg : Str → Option Value} {base : Heap} {k : Nat} {x : Str} {st : Stmt} {N ps : List Str} {sp : DSp} {rd : List Nat → SD} (t : AtM K mg x st) (S : FnScope N ps (defScope st)) (p : PL N.length ps.length rd sp) (bd : ∀ (f : Addr) (fd : FuncData), Fun K x x st f fd → Binds K fd ps [])
    (d : ∀ (f : Addr) (cdv : Value) (A : Around) (out : List Env) (s0 : Shared) (H : Hp) (b : Bas) (ks : List Nat) (E : XK), Room k (A.deeper (envOfC x (defScope st) s0.heap.objs.size f cdv)) → (A.deeper (envOfC x (defScope st) s0.heap.objs.size f cdv)).guards = some [] → b.kp.map (·.1) = ks →
      PSsD (cxOf CX0 P w K mg base N x (defScope st) f cdv A out s0 H E).nox b (defBody st) (rd ks)) : KnownP P w K mg base (k + 1) x sp := by
  obtain ⟨f, fd, F, hm, hk⟩ := t.fn
  exact ⟨f, fd, ps, p.fn F S (d f), hm, hk, bd f fd F⟩
theorem vacuous {P : Program} {w : World} {K : PySem.W.Frag} {mg : Str → Option Value} {base : Heap} {k : Nat} {x : Str} {st : Stmt} {ps : List Str} {sp : DSp} (t : AtM K mg x st) (bd : ∀ (f : Addr) (fd : FuncData), Fun K x x st f fd → Binds K fd ps []) (no : ∀ args Q E, ¬ sp args Q E) : KnownP P w K mg base k x sp := by
  obtain ⟨f, fd, F, hm, hk⟩ := t.fn
  refine ⟨f, fd, ps, ⟨fun xs G Q E h => ?_, fun A out s G ar us xs Q E _ _ _ _ _ h => ?_⟩, hm, hk, bd f fd F⟩
  · obtain ⟨_, args, QD, ED, _, _, _, h, _⟩ := h
    exact (no args QD ED h).elim
  · obtain ⟨_, args, QD, ED, _, _, _, h, _⟩ := h
    exact (no args QD ED h).elim
theorem kn_is_integer {P : Program} {w : World} {K : PySem.W.Frag} {mg : Str → Option Value} {base : Heap} (zb : Blts mg base) (t : AtM K mg "is_integer" s_is_integer)   : KnownP P w K mg base 1 "is_integer" sp_is_integer :=
  known (k := 0) t sc_is_integer pl_is_integer (fun _ _ F => F.binds (ps := ["thing"]) fun _ _ _ _ _ _ us hl => match us, hl with | [_], _ => rfl) fun f cdv A out s0 H b ks E room grd hk => dv_is_integer zb hk room grd 
theorem kn_is_name {P : Program} {w : World} {K : PySem.W.Frag} {mg : Str → Option Value} {base : Heap} (zb : Blts mg base) (t : AtM K mg "is_name" s_is_name) {tk_LETTERS : Tok} (gl_LETTERS : mg "LETTERS" = some (.str "abcdefghijklmnopqrstuvwxyz" tk_LETTERS)) {tk_FIGURES : Tok} (gl_FIGURES : mg "FIGURES" = some (.str "0123456789" tk_FIGURES)) {tk_MAX_NAME : Tok} (gl_MAX_NAME : mg "MAX_NAME" = some (.int (8) tk_MAX_NAME))  : KnownP P w K mg base 1 "is_name" sp_is_name :=
  known (k := 0) t sc_is_name pl_is_name (fun _ _ F => F.binds (ps := ["thing"]) fun _ _ _ _ _ _ us hl => match us, hl with | [_], _ => rfl) fun f cdv A out s0 H b ks E room grd hk => dv_is_name zb hk room grd gl_LETTERS gl_FIGURES gl_MAX_NAME
theorem kn__law_kneaded {P : Program} {w : World} {K : PySem.W.Frag} {mg : Str → Option Value} {base : Heap} (zb : Blts mg base) (t : AtM K mg "_law_kneaded" s__law_kneaded)   : KnownP P w K mg base 1 "_law_kneaded" sp__law_kneaded :=
  known (k := 0) t sc__law_kneaded pl__law_kneaded (fun _ _ F => F.binds (ps := ["seed", "lap"]) fun _ _ _ _ _ _ us hl => match us, hl with | [_, _], _ => rfl) fun f cdv A out s0 H b ks E room grd hk => dv__law_kneaded zb hk room grd 
theorem kn__law_pot_of {P : Program} {w : World} {K : PySem.W.Frag} {mg : Str → Option Value} {base : Heap} (zb : Blts mg base) (t : AtM K mg "_law_pot_of" s__law_pot_of)   : KnownP P w K mg base 1 "_law_pot_of" sp__law_pot_of :=
  known (k := 0) t sc__law_pot_of pl__law_pot_of (fun _ _ F => F.binds (ps := ["script"]) fun _ _ _ _ _ _ us hl => match us, hl with | [_], _ => rfl) fun f cdv A out s0 H b ks E room grd hk => dv__law_pot_of zb hk room grd 
theorem kn__law_below {P : Program} {w : World} {K : PySem.W.Frag} {mg : Str → Option Value} {base : Heap} (zb : Blts mg base) (t : AtM K mg "_law_below" s__law_below) (c__law_kneaded : KnownP P w K mg base 1 "_law_kneaded" sp__law_kneaded)  : KnownP P w K mg base 2 "_law_below" sp__law_below :=
  known (k := 1) t sc__law_below pl__law_below (fun _ _ F => F.binds (ps := ["pot", "bound"]) fun _ _ _ _ _ _ us hl => match us, hl with | [_, _], _ => rfl) fun f cdv A out s0 H b ks E room grd hk => dv__law_below zb hk room grd c__law_kneaded (by decide)
theorem kn__law_pick {P : Program} {w : World} {K : PySem.W.Frag} {mg : Str → Option Value} {base : Heap} (zb : Blts mg base) (t : AtM K mg "_law_pick" s__law_pick) (c__law_below : KnownP P w K mg base 2 "_law_below" sp__law_below)  : KnownP P w K mg base 3 "_law_pick" sp__law_pick :=
  known (k := 2) t sc__law_pick pl__law_pick (fun _ _ F => F.binds (ps := ["pot", "items"]) fun _ _ _ _ _ _ us hl => match us, hl with | [_, _], _ => rfl) fun f cdv A out s0 H b ks E room grd hk => dv__law_pick zb hk room grd c__law_below (by decide)
theorem kn__law_made {P : Program} {w : World} {K : PySem.W.Frag} {mg : Str → Option Value} {base : Heap} {NK : Addr} {NS : Addr} {NT : Addr} {NW : Addr} {SP : Addr} {TM : Addr} {XA : Addr} {XB : Addr} {XC : Addr} {XD1 : Addr} {XE1 : Addr} {XF : Addr} {XG : Addr} {XH : Addr} {XI : Addr} {XJ : Addr} (zb : Blts mg base) (t : AtM K mg "_law_made" s__law_made) (er_NoTable : ErrF P w K mg base "NoTable" NT "fault" okAV) (er_NoRow : ErrF P w K mg base "NoRow" NW "place" okIV) (er_InvalidCommand : ErrC K XJ) (er_Mismatch : ErrC K XI) (er_NoMark : ErrC K XH) (er_NoEra : ErrC K XG) (er_NoNumber : ErrC K XF) (er_NoName : ErrC K XE1) (er_NoRecord : ErrC K XD1) (er_NoTree : ErrC K XC) (er_NoLayout : ErrC K XB) (er_NoKind : ErrC K XA) (er_NotLike : ErrF P w K mg base "NotLike" NK "answer" okAV) (er_NoStep : ErrF P w K mg base "NoStep" NS "place" okIV) (er_SyntaxProblem : ErrF2 P w K mg base "SyntaxProblem" SP "line" "column" fun y1 y2 => okIV y1 ∧ okIV y2) (er_TooMany : ErrF P w K mg base "TooMany" TM "limit" okIV) (me_InvalidCommand : mg "InvalidCommand" = some (.ref XJ)) (me_Mismatch : mg "Mismatch" = some (.ref XI)) (me_NoMark : mg "NoMark" = some (.ref XH)) (me_NoEra : mg "NoEra" = some (.ref XG)) (me_NoNumber : mg "NoNumber" = some (.ref XF)) (me_NoName : mg "NoName" = some (.ref XE1)) (me_NoRecord : mg "NoRecord" = some (.ref XD1)) (me_NoTree : mg "NoTree" = some (.ref XC)) (me_NoLayout : mg "NoLayout" = some (.ref XB)) (me_NoKind : mg "NoKind" = some (.ref XA))  : KnownP P w K mg base 3 "_law_made" (sp__law_made ⟨TM, SP, NS, NK, XA, XB, XC, XD1, XE1, XF, XG, XH, XI, XJ, NW, NT⟩) :=
  known (k := 2) t sc__law_made (pl__law_made ⟨TM, SP, NS, NK, XA, XB, XC, XD1, XE1, XF, XG, XH, XI, XJ, NW, NT⟩) (fun _ _ F => F.binds (ps := ["limit", "place"]) fun _ _ _ _ _ _ us hl => match us, hl with | [_, _], _ => rfl) fun f cdv A out s0 H b ks E room grd hk => dv__law_made zb hk room grd er_NoTable (by decide) er_NoRow (by decide) er_InvalidCommand er_Mismatch er_NoMark er_NoEra er_NoNumber er_NoName er_NoRecord er_NoTree er_NoLayout er_NoKind er_NotLike (by decide) er_NoStep (by decide) er_SyntaxProblem (by decide) er_TooMany (by decide) me_InvalidCommand me_Mismatch me_NoMark me_NoEra me_NoNumber me_NoName me_NoRecord me_NoTree me_NoLayout me_NoKind
theorem kn__law_classes {P : Program} {w : World} {K : PySem.W.Frag} {mg : Str → Option Value} {base : Heap} {NK : Addr} {NS : Addr} {NT : Addr} {NW : Addr} {SP : Addr} {TM : Addr} {XA : Addr} {XB : Addr} {XC : Addr} {XD1 : Addr} {XE1 : Addr} {XF : Addr} {XG : Addr} {XH : Addr} {XI : Addr} {XJ : Addr} {LE : Addr} (zb : Blts mg base) (t : AtM K mg "_law_classes" s__law_classes) (me_NoTable : mg "NoTable" = some (.ref NT)) (me_NoRow : mg "NoRow" = some (.ref NW)) (me_InvalidCommand : mg "InvalidCommand" = some (.ref XJ)) (me_Mismatch : mg "Mismatch" = some (.ref XI)) (me_NoMark : mg "NoMark" = some (.ref XH)) (me_NoEra : mg "NoEra" = some (.ref XG)) (me_NoNumber : mg "NoNumber" = some (.ref XF)) (me_NoName : mg "NoName" = some (.ref XE1)) (me_NoRecord : mg "NoRecord" = some (.ref XD1)) (me_NoTree : mg "NoTree" = some (.ref XC)) (me_NoLayout : mg "NoLayout" = some (.ref XB)) (me_NoKind : mg "NoKind" = some (.ref XA)) (me_NotLike : mg "NotLike" = some (.ref NK)) (me_NoStep : mg "NoStep" = some (.ref NS)) (me_SyntaxProblem : mg "SyntaxProblem" = some (.ref SP)) (me_TooMany : mg "TooMany" = some (.ref TM)) (hx : XsK ⟨TM, SP, NS, NK, XA, XB, XC, XD1, XE1, XF, XG, XH, XI, XJ, NW, NT⟩ LE (ikK K) (xfK K)) : KnownP P w K mg base 1 "_law_classes" (sp__law_classes ⟨TM, SP, NS, NK, XA, XB, XC, XD1, XE1, XF, XG, XH, XI, XJ, NW, NT⟩) :=
  known (k := 0) t sc__law_classes (pl__law_classes ⟨TM, SP, NS, NK, XA, XB, XC, XD1, XE1, XF, XG, XH, XI, XJ, NW, NT⟩ LE hx) (fun _ _ F => F.binds (ps := ["error"]) fun _ _ _ _ _ _ us hl => match us, hl with | [_], _ => rfl) fun f cdv A out s0 H b ks E room grd hk => dv__law_classes zb hk room grd me_NoTable me_NoRow me_InvalidCommand me_Mismatch me_NoMark me_NoEra me_NoNumber me_NoName me_NoRecord me_NoTree me_NoLayout me_NoKind me_NotLike me_NoStep me_SyntaxProblem me_TooMany
theorem kn__law_is_named {P : Program} {w : World} {K : PySem.W.Frag} {mg : Str → Option Value} {base : Heap} (zb : Blts mg base) (t : AtM K mg "_law_is_named" s__law_is_named)   : KnownP P w K mg base 1 "_law_is_named" sp__law_is_named :=
  known (k := 0) t sc__law_is_named pl__law_is_named (fun _ _ F => F.binds (ps := ["word"]) fun _ _ _ _ _ _ us hl => match us, hl with | [_], _ => rfl) fun f cdv A out s0 H b ks E room grd hk => dv__law_is_named zb hk room grd 
theorem kn__law_words {P : Program} {w : World} {K : PySem.W.Frag} {mg : Str → Option Value} {base : Heap} (zb : Blts mg base) (t : AtM K mg "_law_words" s__law_words) (c__law_pick : KnownP P w K mg base 3 "_law_pick" sp__law_pick) (c__law_below : KnownP P w K mg base 2 "_law_below" sp__law_below)  : KnownP P w K mg base 4 "_law_words" sp__law_words :=
  known (k := 3) t sc__law_words pl__law_words (fun _ _ F => F.binds (ps := ["pot"]) fun _ _ _ _ _ _ us hl => match us, hl with | [_], _ => rfl) fun f cdv A out s0 H b ks E room grd hk => dv__law_words zb hk room grd c__law_pick (by decide) c__law_below (by decide)
theorem kn_law {P : Program} {w : World} {K : PySem.W.Frag} {mg : Str → Option Value} {base : Heap} {LE : Addr} {TM : Addr} {SP : Addr} {NS : Addr} {NK : Addr} {XA : Addr} {XB : Addr} {XC : Addr} {XD1 : Addr} {XE1 : Addr} {XF : Addr} {XG : Addr} {XH : Addr} {XI : Addr} {XJ : Addr} {NW : Addr} {NT : Addr} (zb : Blts mg base) (t : AtM K mg "law" s_law) (c_is_integer : KnownP P w K mg base 1 "is_integer" sp_is_integer) (c_is_name : KnownP P w K mg base 1 "is_name" sp_is_name) (c__law_words : KnownP P w K mg base 4 "_law_words" sp__law_words) (c__law_is_named : KnownP P w K mg base 1 "_law_is_named" sp__law_is_named) (c__law_classes : KnownP P w K mg base 1 "_law_classes" (sp__law_classes ⟨TM, SP, NS, NK, XA, XB, XC, XD1, XE1, XF, XG, XH, XI, XJ, NW, NT⟩)) (c__law_made : KnownP P w K mg base 3 "_law_made" (sp__law_made ⟨TM, SP, NS, NK, XA, XB, XC, XD1, XE1, XF, XG, XH, XI, XJ, NW, NT⟩)) (c__law_below : KnownP P w K mg base 2 "_law_below" sp__law_below) (c__law_pot_of : KnownP P w K mg base 1 "_law_pot_of" sp__law_pot_of) (me_LayoutError : mg "LayoutError" = some (.ref LE)) (hx : XsK ⟨TM, SP, NS, NK, XA, XB, XC, XD1, XE1, XF, XG, XH, XI, XJ, NW, NT⟩ LE (ikK K) (xfK K)) : KnownP P w K mg base 5 "law" sp_law :=
  known (k := 4) t sc_law (pl_law ⟨TM, SP, NS, NK, XA, XB, XC, XD1, XE1, XF, XG, XH, XI, XJ, NW, NT⟩ LE hx) (fun _ _ F => F.binds (ps := ["script"]) fun _ _ _ _ _ _ us hl => match us, hl with | [_], _ => rfl) fun f cdv A out s0 H b ks E room grd hk => dv_law zb hk room grd c_is_integer (by decide) c_is_name (by decide) c__law_words (by decide) c__law_is_named (by decide) c__law_classes (by decide) c__law_made (by decide) c__law_below (by decide) c__law_pot_of (by decide) me_LayoutError
theorem ef_NoTable {P : Program} {w : World} {K : PySem.W.Frag} {mg : Str → Option Value} {base : Heap} {NT LE : Addr} (ox : OexC K NT) (ei : ErrInit K NT "NoTable.__init__" s_NoTable___init__) (be : BasE K LE) (gb : mg "LayoutError" = some (.ref LE)) (gC : mg "NoTable" = some (.ref NT)) (no : PySem.W.findIn K (.ref NT) "fault" = some none) : ErrF P w K mg base "NoTable" NT "fault" okAV := by
  obtain ⟨fI, fd, F, a, t⟩ := ei.ex
  refine ⟨ox, gC, fI, fd, ["self", "fault"], a, t, ?_, F.binds (fun _ _ _ _ _ _ us hl => match us, hl with | [_, _], _ => rfl)⟩
  refine F.ok (k := 0) sc_NoTable___init__ (fun vs H Q E h => by obtain ⟨_, _, rfl, _⟩ := h; rfl) fun cdv A out s H vs Q E room h => ?_
  obtain ⟨a, y, rfl, _, ha, q⟩ := h
  exact ⟨_, pss_cons (ps_expr (pe_veinitC rfl gb be.r be.v (pa_cons (pv 0) (pa_cons pe_str pa_nil)))) (pss_one (ps_ost (pv 0) (pv 1))), exEnd ox no rfl rfl ha (fun Q' hQ => hQ _) q⟩
theorem ef_NoRow {P : Program} {w : World} {K : PySem.W.Frag} {mg : Str → Option Value} {base : Heap} {NW LE : Addr} (ox : OexC K NW) (ei : ErrInit K NW "NoRow.__init__" s_NoRow___init__) (be : BasE K LE) (gb : mg "LayoutError" = some (.ref LE)) (gC : mg "NoRow" = some (.ref NW)) (no : PySem.W.findIn K (.ref NW) "place" = some none) : ErrF P w K mg base "NoRow" NW "place" okIV := by
  obtain ⟨fI, fd, F, a, t⟩ := ei.ex
  refine ⟨ox, gC, fI, fd, ["self", "place"], a, t, ?_, F.binds (fun _ _ _ _ _ _ us hl => match us, hl with | [_, _], _ => rfl)⟩
  refine F.ok (k := 0) sc_NoRow___init__ (fun vs H Q E h => by obtain ⟨_, _, rfl, _⟩ := h; rfl) fun cdv A out s H vs Q E room h => ?_
  obtain ⟨a, y, rfl, ⟨i, rfl, hi⟩, ha, q⟩ := h
  exact ⟨_, pss_cons (ps_expr (pe_veinitC rfl gb be.r be.v (pa_cons (pv 0) (pa_cons (pe_joined (.cons pe_str (.cons (pe_fmt (pv 1)) .nil))) pa_nil)))) (pss_one (ps_ost (pv 0) (pv 1))), exEnd ox no rfl rfl ha (fun Q' hQ => veText rfl hi (by decide) hQ) q⟩
theorem ef_NotLike {P : Program} {w : World} {K : PySem.W.Frag} {mg : Str → Option Value} {base : Heap} {NK LE : Addr} (ox : OexC K NK) (ei : ErrInit K NK "NotLike.__init__" s_NotLike___init__) (be : BasE K LE) (gb : mg "LayoutError" = some (.ref LE)) (gC : mg "NotLike" = some (.ref NK)) (no : PySem.W.findIn K (.ref NK) "answer" = some none) : ErrF P w K mg base "NotLike" NK "answer" okAV := by
  obtain ⟨fI, fd, F, a, t⟩ := ei.ex
  refine ⟨ox, gC, fI, fd, ["self", "answer"], a, t, ?_, F.binds (fun _ _ _ _ _ _ us hl => match us, hl with | [_, _], _ => rfl)⟩
  refine F.ok (k := 0) sc_NotLike___init__ (fun vs H Q E h => by obtain ⟨_, _, rfl, _⟩ := h; rfl) fun cdv A out s H vs Q E room h => ?_
  obtain ⟨a, y, rfl, _, ha, q⟩ := h
  exact ⟨_, pss_cons (ps_expr (pe_veinitC rfl gb be.r be.v (pa_cons (pv 0) (pa_cons pe_str pa_nil)))) (pss_one (ps_ost (pv 0) (pv 1))), exEnd ox no rfl rfl ha (fun Q' hQ => hQ _) q⟩
theorem ef_NoStep {P : Program} {w : World} {K : PySem.W.Frag} {mg : Str → Option Value} {base : Heap} {NS LE : Addr} (ox : OexC K NS) (ei : ErrInit K NS "NoStep.__init__" s_NoStep___init__) (be : BasE K LE) (gb : mg "LayoutError" = some (.ref LE)) (gC : mg "NoStep" = some (.ref NS)) (no : PySem.W.findIn K (.ref NS) "place" = some none) : ErrF P w K mg base "NoStep" NS "place" okIV := by
  obtain ⟨fI, fd, F, a, t⟩ := ei.ex
  refine ⟨ox, gC, fI, fd, ["self", "place"], a, t, ?_, F.binds (fun _ _ _ _ _ _ us hl => match us, hl with | [_, _], _ => rfl)⟩
  refine F.ok (k := 0) sc_NoStep___init__ (fun vs H Q E h => by obtain ⟨_, _, rfl, _⟩ := h; rfl) fun cdv A out s H vs Q E room h => ?_
  obtain ⟨a, y, rfl, ⟨i, rfl, hi⟩, ha, q⟩ := h
  exact ⟨_, pss_cons (ps_expr (pe_veinitC rfl gb be.r be.v (pa_cons (pv 0) (pa_cons (pe_joined (.cons pe_str (.cons (pe_fmt (pv 1)) .nil))) pa_nil)))) (pss_one (ps_ost (pv 0) (pv 1))), exEnd ox no rfl rfl ha (fun Q' hQ => veText rfl hi (by decide) hQ) q⟩
theorem ef_SyntaxProblem {P : Program} {w : World} {K : PySem.W.Frag} {mg : Str → Option Value} {base : Heap} {SP LE : Addr} (ox : OexC K SP) (ei : ErrInit K SP "SyntaxProblem.__init__" s_SyntaxProblem___init__) (be : BasE K LE) (gb : mg "LayoutError" = some (.ref LE)) (gC : mg "SyntaxProblem" = some (.ref SP)) (no1 : PySem.W.findIn K (.ref SP) "line" = some none) (no2 : PySem.W.findIn K (.ref SP) "column" = some none) : ErrF2 P w K mg base "SyntaxProblem" SP "line" "column" fun y1 y2 => okIV y1 ∧ okIV y2 := by
  obtain ⟨fI, fd, F, a, t⟩ := ei.ex
  refine ⟨ox, gC, fI, fd, ["self", "line", "column"], a, t, ?_, F.binds (fun _ _ _ _ _ _ us hl => match us, hl with | [_, _, _], _ => rfl)⟩
  refine F.ok (k := 0) sc_SyntaxProblem___init__ (fun vs H Q E h => by obtain ⟨_, _, _, rfl, _⟩ := h; rfl) fun cdv A out s H vs Q E room h => ?_
  obtain ⟨a, y1, y2, rfl, ⟨⟨i, rfl, hi⟩, ⟨k, rfl, hk⟩⟩, ha, q⟩ := h
  exact ⟨_, pss_cons (ps_expr (pe_veinitC rfl gb be.r be.v (pa_cons (pv 0) (pa_cons (pe_joined (.cons pe_str (.cons (pe_fmt (pv 1)) (.cons pe_str (.cons (pe_fmt (pv 2)) .nil))))) pa_nil)))) (pss_cons (ps_ost (pv 0) (pv 1)) (pss_one (ps_ost (pv 0) (pv 2)))), exEnd2 ox no1 no2 rfl rfl rfl ha (fun Q' hQ => veText2 rfl rfl hi hk (by decide) (by decide) hQ) q⟩
theorem ef_TooMany {P : Program} {w : World} {K : PySem.W.Frag} {mg : Str → Option Value} {base : Heap} {TM LE : Addr} (ox : OexC K TM) (ei : ErrInit K TM "TooMany.__init__" s_TooMany___init__) (be : BasE K LE) (gb : mg "LayoutError" = some (.ref LE)) (gC : mg "TooMany" = some (.ref TM)) (no : PySem.W.findIn K (.ref TM) "limit" = some none) : ErrF P w K mg base "TooMany" TM "limit" okIV := by
  obtain ⟨fI, fd, F, a, t⟩ := ei.ex
  refine ⟨ox, gC, fI, fd, ["self", "limit"], a, t, ?_, F.binds (fun _ _ _ _ _ _ us hl => match us, hl with | [_, _], _ => rfl)⟩
  refine F.ok (k := 0) sc_TooMany___init__ (fun vs H Q E h => by obtain ⟨_, _, rfl, _⟩ := h; rfl) fun cdv A out s H vs Q E room h => ?_
  obtain ⟨a, y, rfl, ⟨i, rfl, hi⟩, ha, q⟩ := h
  exact ⟨_, pss_cons (ps_expr (pe_veinitC rfl gb be.r be.v (pa_cons (pv 0) (pa_cons (pe_joined (.cons pe_str (.cons (pe_fmt (pv 1)) .nil))) pa_nil)))) (pss_one (ps_ost (pv 0) (pv 1))), exEnd ox no rfl rfl ha (fun Q' hQ => veText rfl hi (by decide) hQ) q⟩
theorem glS_mk {K : PySem.W.Frag} {x z : Str} {t : Tok} (a : PySem.W.nsIn K mainGlobals x = some (some (.str z t))) : ∃ t, PySem.W.nsIn K mainGlobals x = some (some (.str z t)) := ⟨t, a⟩
theorem glI_mk {K : PySem.W.Frag} {x : Str} {z : Int} {t : Tok} (a : PySem.W.nsIn K mainGlobals x = some (some (.int z t))) : ∃ t, PySem.W.nsIn K mainGlobals x = some (some (.int z t)) := ⟨t, a⟩
theorem all_ok {l : PySem.W.OpenLaw} {w : World} {K : PySem.W.Frag} {h : Heap} {mg : Str → Option Value} {fa : Addr} (X : K.In h) (G : h.Ns mainGlobals mg) (hfa : mg "law" = some (.ref fa)) {NT : Addr} {NW : Addr} {XJ : Addr} {XI : Addr} {XH : Addr} {XG : Addr} {XF : Addr} {XE1 : Addr} {XD1 : Addr} {XC : Addr} {XB : Addr} {XA : Addr} {NK : Addr} {NS : Addr} {SP : Addr} {TM : Addr} {LE : Addr} (g_NoTable : PySem.W.nsIn K mainGlobals "NoTable" = some (some (.ref NT))) (g_NoRow : PySem.W.nsIn K mainGlobals "NoRow" = some (some (.ref NW))) (g_InvalidCommand : PySem.W.nsIn K mainGlobals "InvalidCommand" = some (some (.ref XJ))) (g_Mismatch : PySem.W.nsIn K mainGlobals "Mismatch" = some (some (.ref XI))) (g_NoMark : PySem.W.nsIn K mainGlobals "NoMark" = some (some (.ref XH))) (g_NoEra : PySem.W.nsIn K mainGlobals "NoEra" = some (some (.ref XG))) (g_NoNumber : PySem.W.nsIn K mainGlobals "NoNumber" = some (some (.ref XF))) (g_NoName : PySem.W.nsIn K mainGlobals "NoName" = some (some (.ref XE1))) (g_NoRecord : PySem.W.nsIn K mainGlobals "NoRecord" = some (some (.ref XD1))) (g_NoTree : PySem.W.nsIn K mainGlobals "NoTree" = some (some (.ref XC))) (g_NoLayout : PySem.W.nsIn K mainGlobals "NoLayout" = some (some (.ref XB))) (g_NoKind : PySem.W.nsIn K mainGlobals "NoKind" = some (some (.ref XA))) (g_NotLike : PySem.W.nsIn K mainGlobals "NotLike" = some (some (.ref NK))) (g_NoStep : PySem.W.nsIn K mainGlobals "NoStep" = some (some (.ref NS))) (g_SyntaxProblem : PySem.W.nsIn K mainGlobals "SyntaxProblem" = some (some (.ref SP))) (g_TooMany : PySem.W.nsIn K mainGlobals "TooMany" = some (some (.ref TM))) (g_LayoutError : PySem.W.nsIn K mainGlobals "LayoutError" = some (some (.ref LE))) (ox_NoTable : OexC K NT) (ei_NoTable : ErrInit K NT "NoTable.__init__" s_NoTable___init__) (nf_NoTable_fault : PySem.W.findIn K (.ref NT) "fault" = some none) (ox_NoRow : OexC K NW) (ei_NoRow : ErrInit K NW "NoRow.__init__" s_NoRow___init__) (nf_NoRow_place : PySem.W.findIn K (.ref NW) "place" = some none) (er_InvalidCommand : ErrC K XJ) (er_Mismatch : ErrC K XI) (er_NoMark : ErrC K XH) (er_NoEra : ErrC K XG) (er_NoNumber : ErrC K XF) (er_NoName : ErrC K XE1) (er_NoRecord : ErrC K XD1) (er_NoTree : ErrC K XC) (er_NoLayout : ErrC K XB) (er_NoKind : ErrC K XA) (ox_NotLike : OexC K NK) (ei_NotLike : ErrInit K NK "NotLike.__init__" s_NotLike___init__) (nf_NotLike_answer : PySem.W.findIn K (.ref NK) "answer" = some none) (ox_NoStep : OexC K NS) (ei_NoStep : ErrInit K NS "NoStep.__init__" s_NoStep___init__) (nf_NoStep_place : PySem.W.findIn K (.ref NS) "place" = some none) (ox_SyntaxProblem : OexC K SP) (ei_SyntaxProblem : ErrInit K SP "SyntaxProblem.__init__" s_SyntaxProblem___init__) (nf_SyntaxProblem_line : PySem.W.findIn K (.ref SP) "line" = some none) (nf_SyntaxProblem_column : PySem.W.findIn K (.ref SP) "column" = some none) (ox_TooMany : OexC K TM) (ei_TooMany : ErrInit K TM "TooMany.__init__" s_TooMany___init__) (nf_TooMany_limit : PySem.W.findIn K (.ref TM) "limit" = some none) (be_LayoutError : BasE K LE) (q_spec : PySem.W.specialIn K (.builtin "object.__class__") "__get__" = some (some (.builtin "getset_descriptor.__get__"))) (q_tak : PySem.W.takesIn K (.builtin "object.__class__") = some true) (q_exc : (([TM, SP, NS, NK, XA, XB, XC, XD1, XE1, XF, XG, XH, XI, XJ, NW, NT] : List Addr).all fun C => excB K C) = true) (q_meta : (([TM, SP, NS, NK, XA, XB, XC, XD1, XE1, XF, XG, XH, XI, XJ, NW, NT] ++ [LE] : List Addr).all fun C => metaB K C) = true) (q_sub : (([TM, SP, NS, NK, XA, XB, XC, XD1, XE1, XF, XG, XH, XI, XJ, NW, NT] : List Addr).all fun C => ([TM, SP, NS, NK, XA, XB, XC, XD1, XE1, XF, XG, XH, XI, XJ, NW, NT] : List Addr).all fun E => PySem.W.subIn K (.ref C) (.ref E) == some (decide (C = E))) = true) (q_le : (([TM, SP, NS, NK, XA, XB, XC, XD1, XE1, XF, XG, XH, XI, XJ, NW, NT] : List Addr).all fun C => PySem.W.subIn K (.ref C) (.ref LE) == some true) = true) (q_ve : (([TM, SP, NS, NK, XA, XB, XC, XD1, XE1, XF, XG, XH, XI, XJ, NW, NT] : List Addr).all fun C => PySem.W.subIn K (.ref C) (.type "ValueError") == some true) = true) (q_nd : ([TM, SP, NS, NK, XA, XB, XC, XD1, XE1, XF, XG, XH, XI, XJ, NW, NT] : List Addr).Nodup) (q_f0 : PySem.W.findIn K (.ref TM) "limit" = some none) (q_f1 : PySem.W.findIn K (.ref SP) "line" = some none) (q_f2 : PySem.W.findIn K (.ref SP) "column" = some none) (q_f3 : PySem.W.findIn K (.ref NS) "place" = some none) (q_f4 : PySem.W.findIn K (.ref NK) "answer" = some none) (q_f5 : PySem.W.findIn K (.ref NW) "place" = some none) (q_f6 : PySem.W.findIn K (.ref NT) "fault" = some none) (t_is_integer : AtK K "is_integer" s_is_integer) (t_is_name : AtK K "is_name" s_is_name) (t__law_kneaded : AtK K "_law_kneaded" s__law_kneaded) (t__law_pot_of : AtK K "_law_pot_of" s__law_pot_of) (t__law_below : AtK K "_law_below" s__law_below) (t__law_pick : AtK K "_law_pick" s__law_pick) (t__law_made : AtK K "_law_made" s__law_made) (t__law_classes : AtK K "_law_classes" s__law_classes) (t__law_is_named : AtK K "_law_is_named" s__law_is_named) (t__law_words : AtK K "_law_words" s__law_words) (t_law : AtK K "law" s_law) (q_LETTERS : ∃ t, PySem.W.nsIn K mainGlobals "LETTERS" = some (some (.str "abcdefghijklmnopqrstuvwxyz" t))) (q_FIGURES : ∃ t, PySem.W.nsIn K mainGlobals "FIGURES" = some (some (.str "0123456789" t))) (q_MAX_NAME : ∃ t, PySem.W.nsIn K mainGlobals "MAX_NAME" = some (some (.int (8) t))) (z_all : PySem.W.nsIn K mainGlobals "all" = some none) (z_ValueError : PySem.W.nsIn K mainGlobals "ValueError" = some none) (z_len : PySem.W.nsIn K mainGlobals "len" = some none) (z_abs : PySem.W.nsIn K mainGlobals "abs" = some none) (z_int : PySem.W.nsIn K mainGlobals "int" = some none) (z_str : PySem.W.nsIn K mainGlobals "str" = some none) (z_bool : PySem.W.nsIn K mainGlobals "bool" = some none) (z_repr : PySem.W.nsIn K mainGlobals "repr" = some none) (z_isinstance : PySem.W.nsIn K mainGlobals "isinstance" = some none) (z_list : PySem.W.nsIn K mainGlobals "list" = some none) (z_tuple : PySem.W.nsIn K mainGlobals "tuple" = some none) (z_dict : PySem.W.nsIn K mainGlobals "dict" = some none) (z_range : PySem.W.nsIn K mainGlobals "range" = some none) (z_enumerate : PySem.W.nsIn K mainGlobals "enumerate" = some none) :
    ∃ fd : FuncData, (∀ (s : Shared) (v : Value), BindsTo s fd ⟨[v], []⟩ [("script", v)]) ∧ ∀ base : Heap, K.In base → base.Ns mainGlobals mg → ModsOk base → FnG l.prog w K mg base CX0 5 fa fd ["script"] (toSp K sp_law) := by
  obtain ⟨f, fd, F, hm, hk⟩ := (t_law.m X G).fn
  have e := hfa.symm.trans hm
  cases e
  refine ⟨fd, fun s v => ?_, fun base _ _ hM => ?_⟩
  · obtain ⟨oc, od, kV, doc, pm, an, cdv, ct, osl, rfl, _⟩ := F.ex
    exact .of_eq rfl
  have zb : Blts mg base := ⟨PySem.W.mg_none_of X G z_all, PySem.W.mg_none_of X G z_ValueError, PySem.W.mg_none_of X G z_len, PySem.W.mg_none_of X G z_abs, PySem.W.mg_none_of X G z_int, PySem.W.mg_none_of X G z_str, PySem.W.mg_none_of X G z_bool, PySem.W.mg_none_of X G z_repr, PySem.W.mg_none_of X G z_isinstance, PySem.W.mg_none_of X G z_list, PySem.W.mg_none_of X G z_tuple, PySem.W.mg_none_of X G z_dict, PySem.W.mg_none_of X G z_range, PySem.W.mg_none_of X G z_enumerate, hM⟩
  have me_NoTable := PySem.W.mg_of X G g_NoTable
  have me_NoRow := PySem.W.mg_of X G g_NoRow
  have me_InvalidCommand := PySem.W.mg_of X G g_InvalidCommand
  have me_Mismatch := PySem.W.mg_of X G g_Mismatch
  have me_NoMark := PySem.W.mg_of X G g_NoMark
  have me_NoEra := PySem.W.mg_of X G g_NoEra
  have me_NoNumber := PySem.W.mg_of X G g_NoNumber
  have me_NoName := PySem.W.mg_of X G g_NoName
  have me_NoRecord := PySem.W.mg_of X G g_NoRecord
  have me_NoTree := PySem.W.mg_of X G g_NoTree
  have me_NoLayout := PySem.W.mg_of X G g_NoLayout
  have me_NoKind := PySem.W.mg_of X G g_NoKind
  have me_NotLike := PySem.W.mg_of X G g_NotLike
  have me_NoStep := PySem.W.mg_of X G g_NoStep
  have me_SyntaxProblem := PySem.W.mg_of X G g_SyntaxProblem
  have me_TooMany := PySem.W.mg_of X G g_TooMany
  have me_LayoutError := PySem.W.mg_of X G g_LayoutError
  have er_NoTable : ErrF l.prog w K mg base "NoTable" NT "fault" okAV := ef_NoTable ox_NoTable ei_NoTable be_LayoutError (PySem.W.mg_of X G g_LayoutError) me_NoTable nf_NoTable_fault
  have er_NoRow : ErrF l.prog w K mg base "NoRow" NW "place" okIV := ef_NoRow ox_NoRow ei_NoRow be_LayoutError (PySem.W.mg_of X G g_LayoutError) me_NoRow nf_NoRow_place
  have er_NotLike : ErrF l.prog w K mg base "NotLike" NK "answer" okAV := ef_NotLike ox_NotLike ei_NotLike be_LayoutError (PySem.W.mg_of X G g_LayoutError) me_NotLike nf_NotLike_answer
  have er_NoStep : ErrF l.prog w K mg base "NoStep" NS "place" okIV := ef_NoStep ox_NoStep ei_NoStep be_LayoutError (PySem.W.mg_of X G g_LayoutError) me_NoStep nf_NoStep_place
  have er_SyntaxProblem := ef_SyntaxProblem (P := l.prog) (w := w) (base := base) ox_SyntaxProblem ei_SyntaxProblem be_LayoutError me_LayoutError me_SyntaxProblem nf_SyntaxProblem_line nf_SyntaxProblem_column
  have er_TooMany : ErrF l.prog w K mg base "TooMany" TM "limit" okIV := ef_TooMany ox_TooMany ei_TooMany be_LayoutError (PySem.W.mg_of X G g_LayoutError) me_TooMany nf_TooMany_limit
  have hx : XsK ⟨TM, SP, NS, NK, XA, XB, XC, XD1, XE1, XF, XG, XH, XI, XJ, NW, NT⟩ LE (ikK K) (xfK K) := xsk_mk q_spec q_tak q_exc q_meta q_sub q_le q_ve q_nd q_f0 q_f1 q_f2 q_f3 q_f4 q_f5 q_f6
  obtain ⟨_, q_LETTERS⟩ := q_LETTERS
  have gl_LETTERS := PySem.W.mg_of X G q_LETTERS
  obtain ⟨_, q_FIGURES⟩ := q_FIGURES
  have gl_FIGURES := PySem.W.mg_of X G q_FIGURES
  obtain ⟨_, q_MAX_NAME⟩ := q_MAX_NAME
  have gl_MAX_NAME := PySem.W.mg_of X G q_MAX_NAME
  have c_is_integer : KnownP l.prog w K mg base 1 "is_integer" sp_is_integer := kn_is_integer zb (t_is_integer.m X G)  
  have c_is_name : KnownP l.prog w K mg base 1 "is_name" sp_is_name := kn_is_name zb (t_is_name.m X G) gl_LETTERS gl_FIGURES gl_MAX_NAME 
  have c__law_kneaded : KnownP l.prog w K mg base 1 "_law_kneaded" sp__law_kneaded := kn__law_kneaded zb (t__law_kneaded.m X G)  
  have c__law_pot_of : KnownP l.prog w K mg base 1 "_law_pot_of" sp__law_pot_of := kn__law_pot_of zb (t__law_pot_of.m X G)  
  have c__law_below : KnownP l.prog w K mg base 2 "_law_below" sp__law_below := kn__law_below zb (t__law_below.m X G) c__law_kneaded 
  have c__law_pick : KnownP l.prog w K mg base 3 "_law_pick" sp__law_pick := kn__law_pick zb (t__law_pick.m X G) c__law_below 
  have c__law_made : KnownP l.prog w K mg base 3 "_law_made" (sp__law_made ⟨TM, SP, NS, NK, XA, XB, XC, XD1, XE1, XF, XG, XH, XI, XJ, NW, NT⟩) := kn__law_made zb (t__law_made.m X G) er_NoTable er_NoRow er_InvalidCommand er_Mismatch er_NoMark er_NoEra er_NoNumber er_NoName er_NoRecord er_NoTree er_NoLayout er_NoKind er_NotLike er_NoStep er_SyntaxProblem er_TooMany me_InvalidCommand me_Mismatch me_NoMark me_NoEra me_NoNumber me_NoName me_NoRecord me_NoTree me_NoLayout me_NoKind 
  have c__law_classes : KnownP l.prog w K mg base 1 "_law_classes" (sp__law_classes ⟨TM, SP, NS, NK, XA, XB, XC, XD1, XE1, XF, XG, XH, XI, XJ, NW, NT⟩) := kn__law_classes zb (t__law_classes.m X G) me_NoTable me_NoRow me_InvalidCommand me_Mismatch me_NoMark me_NoEra me_NoNumber me_NoName me_NoRecord me_NoTree me_NoLayout me_NoKind me_NotLike me_NoStep me_SyntaxProblem me_TooMany hx
  have c__law_is_named : KnownP l.prog w K mg base 1 "_law_is_named" sp__law_is_named := kn__law_is_named zb (t__law_is_named.m X G)  
  have c__law_words : KnownP l.prog w K mg base 4 "_law_words" sp__law_words := kn__law_words zb (t__law_words.m X G) c__law_pick c__law_below 
  exact PL.fn (N := n_law) (ps := ["script"]) (pl_law ⟨TM, SP, NS, NK, XA, XB, XC, XD1, XE1, XF, XG, XH, XI, XJ, NW, NT⟩ LE hx) F sc_law fun cdv A out s0 H b ks E room grd hk' => dv_law zb hk' room grd c_is_integer (by decide) c_is_name (by decide) c__law_words (by decide) c__law_is_named (by decide) c__law_classes (by decide) c__law_made (by decide) c__law_below (by decide) c__law_pot_of (by decide) me_LayoutError
end DL.Pot.Er.F
open PySem PySem.W PyProof.Rows
set_option maxRecDepth 100000 in
set_option maxHeartbeats 0 in
theorem PySem.Challenge.cw_layoutswap_k01_errors_and_names_holds : PySem.Challenge.rw_layoutswap_k01_errors_and_names.Holds := by
  w_on; o_law; k_head; (case hw => w_witness2)
  k_fill
  refine DL.walk_law (l := PySem.Challenge.rw_layoutswap_k01_errors_and_names) (n := 63) (k := 5) (sp := DL.Pot.Er.sp_law) (x := "script") rfl (by decide) rfl ⟨rfl, by decide, by decide⟩ (by decide +kernel) (fun w h Y => PySem.W.kIn_of Y) ?F ?want
  case want =>
    intro ns Q hl hb hq
    exact ⟨ns, rfl, hl, hq _⟩
  case F =>
    intro w mg fa h KX G hmg
    refine' DL.Pot.Er.F.all_ok KX G hmg ?g_NoTable ?g_NoRow ?g_InvalidCommand ?g_Mismatch ?g_NoMark ?g_NoEra ?g_NoNumber ?g_NoName ?g_NoRecord ?g_NoTree ?g_NoLayout ?g_NoKind ?g_NotLike ?g_NoStep ?g_SyntaxProblem ?g_TooMany ?g_LayoutError ?ox_NoTable ?ei_NoTable ?nf_NoTable_fault ?ox_NoRow ?ei_NoRow ?nf_NoRow_place ?er_InvalidCommand ?er_Mismatch ?er_NoMark ?er_NoEra ?er_NoNumber ?er_NoName ?er_NoRecord ?er_NoTree ?er_NoLayout ?er_NoKind ?ox_NotLike ?ei_NotLike ?nf_NotLike_answer ?ox_NoStep ?ei_NoStep ?nf_NoStep_place ?ox_SyntaxProblem ?ei_SyntaxProblem ?nf_SyntaxProblem_line ?nf_SyntaxProblem_column ?ox_TooMany ?ei_TooMany ?nf_TooMany_limit ?be_LayoutError ?q_spec ?q_tak ?q_exc ?q_meta ?q_sub ?q_le ?q_ve ?q_nd ?q_f0 ?q_f1 ?q_f2 ?q_f3 ?q_f4 ?q_f5 ?q_f6 ?t_is_integer ?t_is_name ?t__law_kneaded ?t__law_pot_of ?t__law_below ?t__law_pick ?t__law_made ?t__law_classes ?t__law_is_named ?t__law_words ?t_law ?q_LETTERS ?q_FIGURES ?q_MAX_NAME ?z_all ?z_ValueError ?z_len ?z_abs ?z_int ?z_str ?z_bool ?z_repr ?z_isinstance ?z_list ?z_tuple ?z_dict ?z_range ?z_enumerate
    (case g_NoTable => k_is)
    (case g_NoRow => k_is)
    (case g_InvalidCommand => k_is)
    (case g_Mismatch => k_is)
    (case g_NoMark => k_is)
    (case g_NoEra => k_is)
    (case g_NoNumber => k_is)
    (case g_NoName => k_is)
    (case g_NoRecord => k_is)
    (case g_NoTree => k_is)
    (case g_NoLayout => k_is)
    (case g_NoKind => k_is)
    (case g_NotLike => k_is)
    (case g_NoStep => k_is)
    (case g_SyntaxProblem => k_is)
    (case g_TooMany => k_is)
    (case g_LayoutError => k_is)
    (case ox_NoTable => refine' DL.oexC_mk ?xl ?xr ?xs ?xe ?xt ?xk; (case xl => k_is); (case xr => decide +kernel); (case xs => k_is); (case xe => k_is); (case xt => k_is); (case xk => k_is))
    (case ei_NoTable => refine' DL.errInit_mk ?xa ?xi ?xl ?xc ?xk; (case xa => k_is); (case xi => k_is); (case xl => k_is); (case xc => k_is); (case xk => k_is))
    (case nf_NoTable_fault => k_is)
    (case ox_NoRow => refine' DL.oexC_mk ?xl ?xr ?xs ?xe ?xt ?xk; (case xl => k_is); (case xr => decide +kernel); (case xs => k_is); (case xe => k_is); (case xt => k_is); (case xk => k_is))
    (case ei_NoRow => refine' DL.errInit_mk ?xa ?xi ?xl ?xc ?xk; (case xa => k_is); (case xi => k_is); (case xl => k_is); (case xc => k_is); (case xk => k_is))
    (case nf_NoRow_place => k_is)
    (case er_InvalidCommand => refine' DL.errC_mk ?xq ?xk ?xe ?xt; (case xq => k_exc); (case xk => k_is); (case xe => k_is); (case xt => k_is))
    (case er_Mismatch => refine' DL.errC_mk ?xq ?xk ?xe ?xt; (case xq => k_exc); (case xk => k_is); (case xe => k_is); (case xt => k_is))
    (case er_NoMark => refine' DL.errC_mk ?xq ?xk ?xe ?xt; (case xq => k_exc); (case xk => k_is); (case xe => k_is); (case xt => k_is))
    (case er_NoEra => refine' DL.errC_mk ?xq ?xk ?xe ?xt; (case xq => k_exc); (case xk => k_is); (case xe => k_is); (case xt => k_is))
    (case er_NoNumber => refine' DL.errC_mk ?xq ?xk ?xe ?xt; (case xq => k_exc); (case xk => k_is); (case xe => k_is); (case xt => k_is))
    (case er_NoName => refine' DL.errC_mk ?xq ?xk ?xe ?xt; (case xq => k_exc); (case xk => k_is); (case xe => k_is); (case xt => k_is))
    (case er_NoRecord => refine' DL.errC_mk ?xq ?xk ?xe ?xt; (case xq => k_exc); (case xk => k_is); (case xe => k_is); (case xt => k_is))
    (case er_NoTree => refine' DL.errC_mk ?xq ?xk ?xe ?xt; (case xq => k_exc); (case xk => k_is); (case xe => k_is); (case xt => k_is))
    (case er_NoLayout => refine' DL.errC_mk ?xq ?xk ?xe ?xt; (case xq => k_exc); (case xk => k_is); (case xe => k_is); (case xt => k_is))
    (case er_NoKind => refine' DL.errC_mk ?xq ?xk ?xe ?xt; (case xq => k_exc); (case xk => k_is); (case xe => k_is); (case xt => k_is))
    (case ox_NotLike => refine' DL.oexC_mk ?xl ?xr ?xs ?xe ?xt ?xk; (case xl => k_is); (case xr => decide +kernel); (case xs => k_is); (case xe => k_is); (case xt => k_is); (case xk => k_is))
    (case ei_NotLike => refine' DL.errInit_mk ?xa ?xi ?xl ?xc ?xk; (case xa => k_is); (case xi => k_is); (case xl => k_is); (case xc => k_is); (case xk => k_is))
    (case nf_NotLike_answer => k_is)
    (case ox_NoStep => refine' DL.oexC_mk ?xl ?xr ?xs ?xe ?xt ?xk; (case xl => k_is); (case xr => decide +kernel); (case xs => k_is); (case xe => k_is); (case xt => k_is); (case xk => k_is))
    (case ei_NoStep => refine' DL.errInit_mk ?xa ?xi ?xl ?xc ?xk; (case xa => k_is); (case xi => k_is); (case xl => k_is); (case xc => k_is); (case xk => k_is))
    (case nf_NoStep_place => k_is)
    (case ox_SyntaxProblem => refine' DL.oexC_mk ?xl ?xr ?xs ?xe ?xt ?xk; (case xl => k_is); (case xr => decide +kernel); (case xs => k_is); (case xe => k_is); (case xt => k_is); (case xk => k_is))
    (case ei_SyntaxProblem => refine' DL.errInit_mk ?xa ?xi ?xl ?xc ?xk; (case xa => k_is); (case xi => k_is); (case xl => k_is); (case xc => k_is); (case xk => k_is))
    (case nf_SyntaxProblem_line => k_is)
    (case nf_SyntaxProblem_column => k_is)
    (case ox_TooMany => refine' DL.oexC_mk ?xl ?xr ?xs ?xe ?xt ?xk; (case xl => k_is); (case xr => decide +kernel); (case xs => k_is); (case xe => k_is); (case xt => k_is); (case xk => k_is))
    (case ei_TooMany => refine' DL.errInit_mk ?xa ?xi ?xl ?xc ?xk; (case xa => k_is); (case xi => k_is); (case xl => k_is); (case xc => k_is); (case xk => k_is))
    (case nf_TooMany_limit => k_is)
    (case be_LayoutError => refine' DL.basE_mk ?xr ?xs ?xv; (case xr => k_is); (case xs => k_is); (case xv => k_is))
    (case q_spec => k_is)
    (case q_tak => k_is)
    (case q_exc => exact rfl)
    (case q_meta => exact rfl)
    (case q_sub => exact rfl)
    (case q_le => exact rfl)
    (case q_ve => exact rfl)
    (case q_nd => decide)
    (case q_f0 => k_is)
    (case q_f1 => k_is)
    (case q_f2 => k_is)
    (case q_f3 => k_is)
    (case q_f4 => k_is)
    (case q_f5 => k_is)
    (case q_f6 => k_is)
    (case t_is_integer => refine' DL.atK_mk ?a ?l ?c ?k; (case a => k_is); (case l => k_is); (case c => k_is); (case k => k_is))
    (case t_is_name => refine' DL.atK_mk ?a ?l ?c ?k; (case a => k_is); (case l => k_is); (case c => k_is); (case k => k_is))
    (case t__law_kneaded => refine' DL.atK_mk ?a ?l ?c ?k; (case a => k_is); (case l => k_is); (case c => k_is); (case k => k_is))
    (case t__law_pot_of => refine' DL.atK_mk ?a ?l ?c ?k; (case a => k_is); (case l => k_is); (case c => k_is); (case k => k_is))
    (case t__law_below => refine' DL.atK_mk ?a ?l ?c ?k; (case a => k_is); (case l => k_is); (case c => k_is); (case k => k_is))
    (case t__law_pick => refine' DL.atK_mk ?a ?l ?c ?k; (case a => k_is); (case l => k_is); (case c => k_is); (case k => k_is))
    (case t__law_made => refine' DL.atK_mk ?a ?l ?c ?k; (case a => k_is); (case l => k_is); (case c => k_is); (case k => k_is))
    (case t__law_classes => refine' DL.atK_mk ?a ?l ?c ?k; (case a => k_is); (case l => k_is); (case c => k_is); (case k => k_is))
    (case t__law_is_named => refine' DL.atK_mk ?a ?l ?c ?k; (case a => k_is); (case l => k_is); (case c => k_is); (case k => k_is))
    (case t__law_words => refine' DL.atK_mk ?a ?l ?c ?k; (case a => k_is); (case l => k_is); (case c => k_is); (case k => k_is))
    (case t_law => refine' DL.atK_mk ?a ?l ?c ?k; (case a => k_is); (case l => k_is); (case c => k_is); (case k => k_is))
    (case q_LETTERS => refine' DL.Pot.Er.F.glS_mk ?a; (case a => k_is))
    (case q_FIGURES => refine' DL.Pot.Er.F.glS_mk ?a; (case a => k_is))
    (case q_MAX_NAME => refine' DL.Pot.Er.F.glI_mk ?a; (case a => k_is))
    (case z_all => k_is)
    (case z_ValueError => k_is)
    (case z_len => k_is)
    (case z_abs => k_is)
    (case z_int => k_is)
    (case z_str => k_is)
    (case z_bool => k_is)
    (case z_repr => k_is)
    (case z_isinstance => k_is)
    (case z_list => k_is)
    (case z_tuple => k_is)
    (case z_dict => k_is)
    (case z_range => k_is)
    (case z_enumerate => k_is)

