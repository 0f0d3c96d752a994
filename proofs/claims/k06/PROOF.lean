import PyProof.Rows.All
import Wide.All
import OpenK.AllK
import Wide.FinOn
import HandS.ForMost
import HandS.ForExc
import HandS.Defaults
import HandS.CallSlots
import HandS.IsInst
import HandS.Style
import HandS.Flow
import HandS.Zip
import HandS.ExcIs
import HandS.TupAny
import HandS.TupMul
import HandS.TupLe
import HandS.Conv
import HandS.SortInts
import HandS.SetFor
import HandS.Remove
import HandS.Deep
import HandS.Strs
import HandS.HeadEnd
import HandS.HeadHook2
import KE.KStateDown
import HandS.Head0
import HandS.Head1
import HandS.Head2
import HandS.HeadHook1
import PySem.Challenge.RW_cardturns_k06_whole_turns_listed
set_option Elab.async false
set_option linter.all false
set_option maxRecDepth 100000
set_option maxHeartbeats 1000000
/-! A layer of data over the hand layer: values with tuples written out, a store of objects that change, readings on that level. -/
namespace DL
open PySem PySem.Spec PyProof.Rows L2

/-! ### data -/
inductive D where
  | non | bl (b : Bool) | int (i : Int) | str (x : Str) | tup (l : List D) | ref (a : Addr)
  /-- a list that is only read -/
  | fro (l : List D)
/-- what stands in the store -/
inductive DO where
  /-- a list -/
  | lst (l : List D)
abbrev SH := Addr → Option DO
def sup (S : SH) (a : Addr) (o : DO) : SH := fun b => if b = a then some o else S b
theorem sup_same {S : SH} {a : Addr} {o : DO} : sup S a o a = some o := by unfold sup; rw [if_pos rfl]
theorem sup_ne {S : SH} {a b : Addr} {o : DO} (h : b ≠ a) : sup S a o b = S b := by unfold sup; rw [if_neg h]
theorem sup_sup {S : SH} {a : Addr} {o u : DO} : sup (sup S a o) a u = sup S a u := by
  funext b; unfold sup; split <;> rfl
def SLe (S S' : SH) : Prop := ∀ a o, S a = some o → S' a = some o
theorem SLe.rfl {S : SH} : SLe S S := fun _ _ h => h
theorem SLe.trans {S S1 S2 : SH} (h : SLe S S1) (h' : SLe S1 S2) : SLe S S2 := fun a o e => h' a o (h a o e)
theorem SLe.new {S : SH} {p : Addr} {o : DO} (h : S p = none) : SLe S (sup S p o) := fun a u e => by
  rw [sup_ne]
  · exact e
  · intro z; subst z; rw [h] at e; cases e
theorem SLe.sup {S S' : SH} {p : Addr} {o : DO} (h : SLe S S') : SLe (sup S p o) (DL.sup S' p o) := fun a u e => by
  by_cases z : a = p
  · subst z; rw [sup_same] at e ⊢; exact e
  · rw [sup_ne z] at e ⊢; exact h a u e
theorem SLe.none {S S' : SH} (h : SLe S S') {p : Addr} (e : S' p = none) : S p = none := by
  cases q : S p with
  | none => rfl
  | some o => rw [h p o q] at e; cases e

/-! ### data in the abstract heap -/
/-- a plain tuple -/
def TupAt (K : PySem.W.Frag) (H : Hp) (a : Addr) (xs : List V) : Prop :=
  (∃ o, H a = some (.frz o (.tup xs)) ∧ o.dict = none) ∨
    ∃ (o : Obj) (its : Array Value) (n : Nat), K.lookup a = some o ∧ o.cls = .type "tuple" ∧ o.dict = none ∧ o.data = .seq its n ∧ its.size ≤ sizeLine ∧ Vals xs its.toList
theorem TupAt.sq {K : PySem.W.Frag} {H : Hp} {a : Addr} {xs : List V} (h : TupAt K H a xs) : SqT K H a xs := by
  rcases h with ⟨o, e, _⟩ | ⟨o, its, n, h1, h2, _, h3, h4, h5⟩
  · exact .inl (.inr ⟨o, e⟩)
  · exact .inr ⟨o, its, n, h1, h2, h3, h4, h5⟩
/-- what never changes -/
def stayU : HO → Bool
  | .tup _ => true
  | .lst _ => true
  | _ => false
/-- the tuples (and the lists that are only read) stay -/
def HLe (H H' : Hp) : Prop := ∀ a o u, stayU u = true → H a = some (.frz o u) → H' a = some (.frz o u)
theorem HLe.rfl {H : Hp} : HLe H H := fun _ _ _ _ h => h
theorem HLe.trans {H H1 H2 : Hp} (h : HLe H H1) (h' : HLe H1 H2) : HLe H H2 := fun a o u s e => h' a o u s (h a o u s e)
theorem HLe.new {H : Hp} {p : Addr} {o : HO} (h : H p = none) : HLe H (upd H p o) := fun a u xs _ e => by
  rw [upd_ne (ne_of_none e h)]; exact e
theorem HLe.put {H : Hp} {p : Addr} {o u : HO} (h : H p = some u) (hu : ∀ x w, stayU w = true → u ≠ .frz x w) : HLe H (upd H p o) := fun a x w s e => by
  rw [upd_ne]
  · exact e
  · intro z; subst z; rw [h] at e; cases e; exact hu _ _ s _root_.rfl
theorem TupAt.mono {K : PySem.W.Frag} {H H' : Hp} {a : Addr} {xs : List V} (h : TupAt K H a xs) (m : HLe H H') : TupAt K H' a xs := by
  rcases h with ⟨o, e, d⟩ | h
  · exact .inl ⟨o, m _ _ _ rfl e, d⟩
  · exact .inr h
/-- a list that nobody writes -/
def FroAt (K : PySem.W.Frag) (H : Hp) (a : Addr) (xs : List V) : Prop :=
  (∃ o, H a = some (.frz o (.lst xs))) ∨
    ∃ (o : Obj) (its : Array Value) (n : Nat), K.lookup a = some o ∧ o.cls = .type "list" ∧ o.dict = none ∧ o.data = .seq its n ∧ its.size ≤ sizeLine ∧ Vals xs its.toList
theorem FroAt.sq {K : PySem.W.Frag} {H : Hp} {a : Addr} {xs : List V} (h : FroAt K H a xs) : SqL K H a xs := by
  rcases h with h | h
  · exact .inl (.inr h)
  · exact .inr h
theorem FroAt.mono {K : PySem.W.Frag} {H H' : Hp} {a : Addr} {xs : List V} (h : FroAt K H a xs) (m : HLe H H') : FroAt K H' a xs := by
  rcases h with ⟨o, e⟩ | h
  · exact .inl ⟨o, m _ _ _ rfl e⟩
  · exact .inr h
mutual
inductive Dt (K : PySem.W.Frag) (H : Hp) : D → V → Prop
  | non : Dt K H .non .non
  | bl (b : Bool) : Dt K H (.bl b) (.bl b)
  | int (i : Int) : Dt K H (.int i) (.int i)
  | str (x : Str) : Dt K H (.str x) (.str x)
  | ref (a : Addr) : Dt K H (.ref a) (.ref a)
  | tup {a : Addr} {xs : List V} {l : List D} : TupAt K H a xs → DtL K H l xs → Dt K H (.tup l) (.ref a)
  | fro {a : Addr} {xs : List V} {l : List D} : FroAt K H a xs → DtL K H l xs → Dt K H (.fro l) (.ref a)
inductive DtL (K : PySem.W.Frag) (H : Hp) : List D → List V → Prop
  | nil : DtL K H [] []
  | cons {d : D} {ds : List D} {v : V} {vs : List V} : Dt K H d v → DtL K H ds vs → DtL K H (d :: ds) (v :: vs)
end
section
variable {K : PySem.W.Frag} {H H' : Hp}
mutual
theorem Dt.mono (m : HLe H H') : ∀ {d : D} {v : V}, Dt K H d v → Dt K H' d v
  | _, _, .non => .non
  | _, _, .bl b => .bl b
  | _, _, .int i => .int i
  | _, _, .str x => .str x
  | _, _, .ref a => .ref a
  | _, _, .tup h l => .tup (h.mono m) (DtL.mono m l)
  | _, _, .fro h l => .fro (h.mono m) (DtL.mono m l)
theorem DtL.mono (m : HLe H H') : ∀ {ds : List D} {vs : List V}, DtL K H ds vs → DtL K H' ds vs
  | _, _, .nil => .nil
  | _, _, .cons h t => .cons (Dt.mono m h) (DtL.mono m t)
end
theorem DtL.length : ∀ {ds : List D} {vs : List V}, DtL K H ds vs → ds.length = vs.length
  | _, _, .nil => rfl
  | _, _, .cons _ t => congrArg Nat.succ t.length
theorem DtL.get : ∀ {ds : List D} {vs : List V} {i : Nat} {d : D}, DtL K H ds vs → ds[i]? = some d → ∃ v, vs[i]? = some v ∧ Dt K H d v
  | _, _, _, _, .nil, e => by simp at e
  | _, _, 0, _, .cons h _, e => by simp at e; subst e; exact ⟨_, rfl, h⟩
  | _, _, i + 1, d, .cons _ t, e => by
    obtain ⟨v, h1, h2⟩ := DtL.get (i := i) (d := d) t (by simpa using e)
    exact ⟨v, by simpa using h1, h2⟩
theorem DtL.getV : ∀ {ds : List D} {vs : List V} {i : Nat} {v : V}, DtL K H ds vs → vs[i]? = some v → ∃ d, ds[i]? = some d ∧ Dt K H d v
  | _, _, _, _, .nil, e => by simp at e
  | _, _, 0, _, .cons h _, e => by simp at e; subst e; exact ⟨_, rfl, h⟩
  | _, _, i + 1, v, .cons _ t, e => by
    obtain ⟨d, h1, h2⟩ := DtL.getV (i := i) (v := v) t (by simpa using e)
    exact ⟨d, by simpa using h1, h2⟩
theorem DtL.append : ∀ {ds es : List D} {vs us : List V}, DtL K H ds vs → DtL K H es us → DtL K H (ds ++ es) (vs ++ us)
  | _, _, _, _, .nil, h => h
  | _, _, _, _, .cons h t, h' => .cons h (DtL.append t h')
theorem DtL.set {d : D} {v : V} (h : Dt K H d v) : ∀ {ds : List D} {vs : List V} (i : Nat), DtL K H ds vs → DtL K H (ds.set i d) (vs.set i v)
  | _, _, _, .nil => .nil
  | _, _, 0, .cons _ t => .cons h t
  | _, _, i + 1, .cons q t => .cons q (DtL.set h i t)
theorem DtL.drop : ∀ {ds : List D} {vs : List V} (n : Nat), DtL K H ds vs → DtL K H (ds.drop n) (vs.drop n)
  | _, _, 0, h => h
  | _, _, _ + 1, .nil => .nil
  | _, _, n + 1, .cons _ t => DtL.drop n t
theorem DtL.take : ∀ {ds : List D} {vs : List V} (n : Nat), DtL K H ds vs → DtL K H (ds.take n) (vs.take n)
  | _, _, 0, _ => .nil
  | _, _, _ + 1, .nil => .nil
  | _, _, n + 1, .cons h t => .cons h (DtL.take n t)
theorem DtL.eraseIdx : ∀ {ds : List D} {vs : List V} (n : Nat), DtL K H ds vs → DtL K H (ds.eraseIdx n) (vs.eraseIdx n)
  | _, _, _, .nil => .nil
  | _, _, 0, .cons _ t => t
  | _, _, n + 1, .cons h t => .cons h (DtL.eraseIdx n t)
theorem DtL.reverse {ds : List D} {vs : List V} (h : DtL K H ds vs) : DtL K H ds.reverse vs.reverse := by
  induction ds generalizing vs with
  | nil => cases h; exact .nil
  | cons d ds ih =>
    cases h with
    | cons h t => rw [List.reverse_cons, List.reverse_cons]; exact (ih t).append (.cons h .nil)
theorem DtL.rep {ds : List D} {vs : List V} (h : DtL K H ds vs) : ∀ k : Nat, DtL K H (List.replicate k ds).flatten (List.replicate k vs).flatten
  | 0 => .nil
  | k + 1 => by
    rw [List.replicate_succ, List.replicate_succ, List.flatten_cons, List.flatten_cons]
    exact h.append (h.rep k)
theorem DtL.ints : ∀ {ns : List Int} {vs : List V}, DtL K H (ns.map D.int) vs → vs = ns.map V.int
  | [], _, h => by cases h; rfl
  | n :: ns, _, h => by
    cases h with
    | cons h t => cases h; rw [DtL.ints t]; rfl
theorem dtl_ints : ∀ ns : List Int, DtL K H (ns.map D.int) (ns.map V.int)
  | [] => .nil
  | n :: ns => .cons (.int n) (dtl_ints ns)
theorem DtL.bls : ∀ {ns : List Bool} {vs : List V}, DtL K H (ns.map D.bl) vs → vs = ns.map V.bl
  | [], _, h => by cases h; rfl
  | n :: ns, _, h => by
    cases h with
    | cons h t => cases h; rw [DtL.bls t]; rfl
theorem DtL.strs : ∀ {ns : List Str} {vs : List V}, DtL K H (ns.map D.str) vs → vs = ns.map V.str
  | [], _, h => by cases h; rfl
  | n :: ns, _, h => by
    cases h with
    | cons h t => cases h; rw [DtL.strs t]; rfl
theorem DtL.one {d : D} {vs : List V} (h : DtL K H [d] vs) : ∃ v, vs = [v] ∧ Dt K H d v := by
  cases h with
  | cons h t => cases t; exact ⟨_, rfl, h⟩
theorem DtL.two {d e : D} {vs : List V} (h : DtL K H [d, e] vs) : ∃ v u, vs = [v, u] ∧ Dt K H d v ∧ Dt K H e u := by
  cases h with
  | cons h t =>
    cases t with
    | cons h' t => cases t; exact ⟨_, _, rfl, h, h'⟩
end
/-- an object of the store as it lies -/
def DoAt (K : PySem.W.Frag) (H : Hp) (a : Addr) : DO → Prop
  | .lst l => ∃ vs, H a = some (.lst vs) ∧ DtL K H l vs
def Abs (K : PySem.W.Frag) (H : Hp) (S : SH) : Prop := ∀ a o, S a = some o → DoAt K H a o
section
variable {K : PySem.W.Frag} {H H' : Hp} {S S' : SH}
theorem Abs.le (h : Abs K H S) (l : SLe S' S) : Abs K H S' := fun a o e => h a o (l a o e)
theorem Abs.free (h : Abs K H S) {p : Addr} (e : H p = none) : S p = none := by
  cases q : S p with
  | none => rfl
  | some o =>
    have := h p o q
    cases o with
    | lst l => obtain ⟨vs, e', _⟩ := this; rw [e] at e'; cases e'
theorem DoAt.upd {a p : Addr} {o : DO} {u : HO} (h : DoAt K H a o) (m : HLe H (upd H p u)) (ne : a ≠ p) : DoAt K (upd H p u) a o := by
  cases o with
  | lst l => obtain ⟨vs, e, r⟩ := h; exact ⟨vs, by rw [upd_ne ne]; exact e, DtL.mono m r⟩
/-- a new object that the store doesn't show -/
theorem Abs.hid (h : Abs K H S) {p : Addr} {u : HO} (e : H p = none) : Abs K (upd H p u) S := fun a o q =>
  (h a o q).upd (HLe.new e) (fun z => by subst z; rw [h.free e] at q; cases q)
/-- a new object -/
theorem Abs.new (h : Abs K H S) {p : Addr} {u : HO} {o : DO} (e : H p = none) (r : DoAt K (upd H p u) p o) : Abs K (upd H p u) (sup S p o) := fun a v q => by
  by_cases z : a = p
  · subst z; rw [sup_same] at q; cases q; exact r
  · rw [sup_ne z] at q; exact (h a v q).upd (HLe.new e) z
/-- an object is changed -/
theorem Abs.put (h : Abs K H S) {p : Addr} {u : HO} {o : DO} (m : HLe H (upd H p u)) (r : DoAt K (upd H p u) p o) : Abs K (upd H p u) (sup S p o) := fun a v q => by
  by_cases z : a = p
  · subst z; rw [sup_same] at q; cases q; exact r
  · rw [sup_ne z] at q; exact (h a v q).upd m z
end
/-- slots and store -/
abbrev SDl := List (Option D)
structure Rl (K : PySem.W.Frag) (H0 H : Hp) (σ : L2.St) (τ : SDl) (S : SH) : Prop where
  le : HLe H0 H
  len : τ.length = σ.length
  sl : ∀ (i : Nat) (d : D), τ[i]? = some (some d) → ∃ v, σ[i]? = some (some v) ∧ Dt K H d v
  ab : Abs K H S
end DL

set_option Elab.async false
set_option linter.all false
set_option maxRecDepth 100000
set_option maxHeartbeats 1000000
namespace DL
open PySem PySem.Spec PyProof.Rows L2

/-! ### readings on the level of data -/
abbrev QE := D → SH → Prop
/-- what is wanted of an exception: its class, its fields, the slots, the store -/
abbrev EK := Value → List (Str × D) → SDl → SH → Prop
abbrev DE := EK → SDl → SH → QE → Prop
abbrev DT := EK → SDl → SH → (Bool → SH → Prop) → Prop
abbrev DA := EK → SDl → SH → (List D → SH → Prop) → Prop
structure DEnds where
  nx : SDl → SH → Prop
  rt : QE
  bk : SDl → SH → Prop := fun _ _ => False
  ct : SDl → SH → Prop := fun _ _ => False
abbrev DS := EK → DEnds → SDl → SH → Prop
def ek0 : EK := fun _ _ _ _ => False
/-- some of the store may be forgotten -/
def wk (P : SH → Prop) : SH → Prop := fun S => ∃ S', SLe S' S ∧ P S'
theorem wk.of {P : SH → Prop} {S : SH} (h : P S) : wk P S := ⟨S, SLe.rfl, h⟩

inductive FR (K : PySem.W.Frag) (H : Hp) : List (Str × D) → List (Str × V) → Prop
  | nil : FR K H [] []
  | cons {x : Str} {d : D} {v : V} {fs : List (Str × D)} {gs : List (Str × V)} : Dt K H d v → FR K H fs gs → FR K H ((x, d) :: fs) ((x, v) :: gs)
theorem FR.mono {K : PySem.W.Frag} {H H' : Hp} (m : HLe H H') : ∀ {fs : List (Str × D)} {gs : List (Str × V)}, FR K H fs gs → FR K H' fs gs
  | _, _, .nil => .nil
  | _, _, .cons h t => .cons (h.mono m) (FR.mono m t)
/-- the fields of an exception -/
def XdR (K : PySem.W.Frag) (H : Hp) (d : Option Addr) (fs : List (Str × D)) : Prop := match d with
  | none => fs = []
  | some a => fs ≠ [] ∧ ∃ gs, H a = some (.xd gs) ∧ FR K H fs gs
def liftE (K : PySem.W.Frag) (H0 : Hp) (ED : EK) : WX := fun cls d σ H => ∃ τ S fs, Rl K H0 H σ τ S ∧ XdR K H d fs ∧ ED cls fs τ S

section
variable {K : PySem.W.Frag} {H0 H H' : Hp} {σ : L2.St} {τ : SDl} {S S' : SH}
theorem Rl.mono (r : Rl K H0 H σ τ S) (m : HLe H H') (a : Abs K H' S') : Rl K H0 H' σ τ S' :=
  ⟨r.le.trans m, r.len, fun i d e => let ⟨v, h1, h2⟩ := r.sl i d e; ⟨v, h1, h2.mono m⟩, a⟩
theorem Rl.set (r : Rl K H0 H σ τ S) {i : Nat} {d : D} {v : V} (h : Dt K H d v) : Rl K H0 H (σ.set i (some v)) (τ.set i (some d)) S := by
  refine ⟨r.le, by rw [List.length_set, List.length_set]; exact r.len, fun j e q => ?_, r.ab⟩
  by_cases z : i = j
  · subst z
    by_cases lt : i < τ.length
    · rw [List.getElem?_set_self lt] at q
      cases q
      exact ⟨v, by rw [List.getElem?_set_self (by rw [← r.len]; exact lt)], h⟩
    · rw [List.getElem?_eq_none (by simpa using lt)] at q; cases q
  · rw [List.getElem?_set_ne z] at q ⊢
    exact r.sl j e q
theorem Rl.less (r : Rl K H0 H σ τ S) (l : SLe S' S) : Rl K H0 H σ τ S' := ⟨r.le, r.len, r.sl, r.ab.le l⟩
end

/-! ### judgements -/
def SE (X : Cx) (e : Expr) (t : DE) : Prop := ∀ ED H0, Takes X (liftE X.K H0 ED) → ∃ tt : TE, PE X e tt ∧
  ∀ (σ : L2.St) (H : Hp) (τ : SDl) (S : SH) (Q : QE) (R : VK), Rl X.K H0 H σ τ S → t ED τ S Q →
    (∀ v H' d S', HLe H H' → Abs X.K H' S' → Dt X.K H' d v → Q d S' → R v H') → tt σ H R
def ST (X : Cx) (e : Expr) (t : DT) : Prop := ∀ ED H0, Takes X (liftE X.K H0 ED) → ∃ tt : TT, PT X e tt ∧
  ∀ (σ : L2.St) (H : Hp) (τ : SDl) (S : SH) (Q : Bool → SH → Prop) (R : Bool → Hp → Prop), Rl X.K H0 H σ τ S → t ED τ S Q →
    (∀ b H' S', HLe H H' → Abs X.K H' S' → Q b S' → R b H') → tt σ H R
/-- and, or: tests whose whole is any -/
def SW (X : Cx) (e : Expr) (t : DT) : Prop := ∀ ED H0, Takes X (liftE X.K H0 ED) → ∃ tt : TT, PW X e tt ∧
  ∀ (σ : L2.St) (H : Hp) (τ : SDl) (S : SH) (Q : Bool → SH → Prop) (R : Bool → Hp → Prop), Rl X.K H0 H σ τ S → t ED τ S Q →
    (∀ b H' S', HLe H H' → Abs X.K H' S' → Q b S' → R b H') → tt σ H R
def SA (X : Cx) (es : List Expr) (t : DA) : Prop := ∀ ED H0, Takes X (liftE X.K H0 ED) → ∃ tt : TA, PA X es tt ∧
  ∀ (σ : L2.St) (H : Hp) (τ : SDl) (S : SH) (Q : List D → SH → Prop) (R : List V → Hp → Prop), Rl X.K H0 H σ τ S → t ED τ S Q →
    (∀ vs H' ds S', HLe H H' → Abs X.K H' S' → DtL X.K H' ds vs → Q ds S' → R vs H') → tt σ H R
/-- the ends of a statement, one level below -/
structure EndR (K : PySem.W.Frag) (H0 H : Hp) (DD : DEnds) (D' : Ends) : Prop where
  nx : ∀ σ' H' τ' S', HLe H H' → Rl K H0 H' σ' τ' S' → DD.nx τ' S' → D'.nx σ' H'
  rt : ∀ v H' d S', HLe H H' → Abs K H' S' → Dt K H' d v → DD.rt d S' → D'.rt v H'
  bk : ∀ σ' H' τ' S', HLe H H' → Rl K H0 H' σ' τ' S' → DD.bk τ' S' → D'.bk σ' H'
  ct : ∀ σ' H' τ' S', HLe H H' → Rl K H0 H' σ' τ' S' → DD.ct τ' S' → D'.ct σ' H'
theorem EndR.mono {K : PySem.W.Frag} {H0 H H1 : Hp} {DD : DEnds} {D' : Ends} (e : EndR K H0 H DD D') (m : HLe H H1) : EndR K H0 H1 DD D' :=
  ⟨fun σ' H' τ' S' m' => e.nx σ' H' τ' S' (m.trans m'), fun v H' d S' m' => e.rt v H' d S' (m.trans m'), fun σ' H' τ' S' m' => e.bk σ' H' τ' S' (m.trans m'), fun σ' H' τ' S' m' => e.ct σ' H' τ' S' (m.trans m')⟩
def SS (X : Cx) (st : Stmt) (t : DS) : Prop := PassesOwn (model X.prog X.w) X.A X.env X.xe → ∀ ED H0, Takes X (liftE X.K H0 ED) → ∃ tt : TS, PS X st tt ∧
  ∀ (σ : L2.St) (H : Hp) (τ : SDl) (S : SH) (DD : DEnds) (D' : Ends), Rl X.K H0 H σ τ S → t ED DD τ S → EndR X.K H0 H DD D' → tt D' σ H
def SSs (X : Cx) (st : List Stmt) (t : DS) : Prop := PassesOwn (model X.prog X.w) X.A X.env X.xe → ∀ ED H0, Takes X (liftE X.K H0 ED) → ∃ tt : TS, PSs X st tt ∧
  ∀ (σ : L2.St) (H : Hp) (τ : SDl) (S : SH) (DD : DEnds) (D' : Ends), Rl X.K H0 H σ τ S → t ED DD τ S → EndR X.K H0 H DD D' → tt D' σ H

/-! ### what a primitive gives -/
inductive Res where
  | val (d : D) | new (o : DO) | put (d : D) (a : Addr) (o : DO) | bad
def resW (r : Res) (S : SH) (Q : QE) : Prop := match r with
  | .val d => Q d S
  | .new o => ∀ p, S p = none → Q (.ref p) (sup S p o)
  | .put d a o => Q d (sup S a o)
  | .bad => False
@[simp] theorem resW_val (d : D) (S : SH) (Q : QE) : resW (.val d) S Q = Q d S := rfl
@[simp] theorem resW_new (o : DO) (S : SH) (Q : QE) : resW (.new o) S Q = ∀ p, S p = none → Q (.ref p) (sup S p o) := rfl
@[simp] theorem resW_put (d : D) (a : Addr) (o : DO) (S : SH) (Q : QE) : resW (.put d a o) S Q = Q d (sup S a o) := rfl
@[simp] theorem resW_bad (S : SH) (Q : QE) : resW .bad S Q = False := rfl
/-- the continuation of a primitive, one level below -/
def Cont (K : PySem.W.Frag) (H : Hp) (Q : QE) (R : VK) : Prop := ∀ v H' d S', HLe H H' → Abs K H' S' → Dt K H' d v → Q d S' → R v H'
theorem Cont.mono {K : PySem.W.Frag} {H H1 : Hp} {Q : QE} {R : VK} (k : Cont K H Q R) (m : HLe H H1) : Cont K H1 Q R := fun v H' d S' m' => k v H' d S' (m.trans m')
def OpD (X : Cx) (f : Value → Value → Sem Value) (pr : D → D → SH → Res) : Prop := ∃ r : R2, OpR X f r ∧
  ∀ (x y : D) (v u : V) (H : Hp) (S : SH) (Q : QE) (R : VK), Abs X.K H S → Dt X.K H x v → Dt X.K H y u → resW (pr x y S) S Q → Cont X.K H Q R → r v u H R
def UnD (X : Cx) (f : Value → Sem Value) (pr : D → SH → Res) : Prop := ∃ r : V → Hp → VK → Prop, UnR X f r ∧
  ∀ (x : D) (v : V) (H : Hp) (S : SH) (Q : QE) (R : VK), Abs X.K H S → Dt X.K H x v → resW (pr x S) S Q → Cont X.K H Q R → r v H R
def CallD (X : Cx) (f : Value) (pr : List D → SH → Res) : Prop := ∃ r : List V → Hp → VK → Prop, CallR X f r ∧
  ∀ (xs : List D) (vs : List V) (H : Hp) (S : SH) (Q : QE) (R : VK), Abs X.K H S → DtL X.K H xs vs → resW (pr xs S) S Q → Cont X.K H Q R → r vs H R
def IxD (X : Cx) (pr : D → D → SH → Res) : Prop := ∃ r : R2, IxR X r ∧
  ∀ (x y : D) (v u : V) (H : Hp) (S : SH) (Q : QE) (R : VK), Abs X.K H S → Dt X.K H x v → Dt X.K H y u → resW (pr x y S) S Q → Cont X.K H Q R → r v u H R
/-- two sets of cases for one operation: pr' where pr is bad -/
def orR {α : Type} (p q : α → α → SH → Res) : α → α → SH → Res := fun x y S => match p x y S with
  | .bad => q x y S
  | r => r
theorem OpD.or {X : Cx} {f : Value → Value → Sem Value} {p q : D → D → SH → Res} (h : OpD X f p) (h' : OpD X f q) : OpD X f (orR p q) := by
  obtain ⟨r, h1, h2⟩ := h
  obtain ⟨r', h3, h4⟩ := h'
  refine ⟨_, h1.or h3, fun x y v u H S Q R a d d' w k => ?_⟩
  unfold orR at w
  cases e : p x y S with
  | bad => rw [e] at w; exact .inr (h4 x y v u H S Q R a d d' w k)
  | val z => rw [e] at w; exact .inl (h2 x y v u H S Q R a d d' (by rw [e]; exact w) k)
  | new z => rw [e] at w; exact .inl (h2 x y v u H S Q R a d d' (by rw [e]; exact w) k)
  | put z1 z2 z3 => rw [e] at w; exact .inl (h2 x y v u H S Q R a d d' (by rw [e]; exact w) k)
theorem IxD.or {X : Cx} {p q : D → D → SH → Res} (h : IxD X p) (h' : IxD X q) : IxD X (orR p q) := by
  obtain ⟨r, h1, h2⟩ := h
  obtain ⟨r', h3, h4⟩ := h'
  refine ⟨_, h1.or h3, fun x y v u H S Q R a d d' w k => ?_⟩
  unfold orR at w
  cases e : p x y S with
  | bad => rw [e] at w; exact .inr (h4 x y v u H S Q R a d d' w k)
  | val z => rw [e] at w; exact .inl (h2 x y v u H S Q R a d d' (by rw [e]; exact w) k)
  | new z => rw [e] at w; exact .inl (h2 x y v u H S Q R a d d' (by rw [e]; exact w) k)
  | put z1 z2 z3 => rw [e] at w; exact .inl (h2 x y v u H S Q R a d d' (by rw [e]; exact w) k)
def orL (p q : List D → SH → Res) : List D → SH → Res := fun xs S => match p xs S with
  | .bad => q xs S
  | r => r
theorem CallD.or {X : Cx} {f : Value} {p q : List D → SH → Res} (h : CallD X f p) (h' : CallD X f q) : CallD X f (orL p q) := by
  obtain ⟨r, h1, h2⟩ := h
  obtain ⟨r', h3, h4⟩ := h'
  refine ⟨_, h1.or h3, fun xs vs H S Q R a d w k => ?_⟩
  unfold orL at w
  cases e : p xs S with
  | bad => rw [e] at w; exact .inr (h4 xs vs H S Q R a d w k)
  | val z => rw [e] at w; exact .inl (h2 xs vs H S Q R a d (by rw [e]; exact w) k)
  | new z => rw [e] at w; exact .inl (h2 xs vs H S Q R a d (by rw [e]; exact w) k)
  | put z1 z2 z3 => rw [e] at w; exact .inl (h2 xs vs H S Q R a d (by rw [e]; exact w) k)

/-! ### expressions -/
section
variable {X : Cx} {a b c e : Expr} {es : List Expr} {ta tb tc te : DE} {t u : DT} {ts : DA} {pos : Pos}
def dVar (i : Nat) : DE := fun _ τ S Q => match τ[i]? with
  | some (some d) => Q d S
  | _ => False
theorem se_var {i : Nat} {x : Str} (hN : X.N[i]? = some x) (hv : Vis X.env.scope x) (hd : (x == ("__debug__" : Str)) = false) (hcd : (x == ("__classdict__" : Str)) = false) : SE X (.Name x pos) (dVar i) := by
  intro ED H0 _
  refine ⟨_, pe_var hN hv hd hcd, fun σ H τ S Q R r h k => ?_⟩
  unfold dVar at h
  split at h
  · rename_i d q
    obtain ⟨v, h1, h2⟩ := r.sl i d q
    exact ⟨v, h1, k v H d S HLe.rfl r.ab h2 h⟩
  · exact h.elim
def dC (d : D) : DE := fun _ _ S Q => Q d S
theorem se_int {i : Int} {j} : SE X (.Constant (.int i) j pos) (dC (.int i)) := fun _ _ _ => ⟨_, pe_int, fun σ H τ S Q R r h k => k _ H _ S HLe.rfl r.ab (.int i) h⟩
theorem se_bl {b : Bool} {j} : SE X (.Constant (.bool b) j pos) (dC (.bl b)) := fun _ _ _ => ⟨_, pe_bl, fun σ H τ S Q R r h k => k _ H _ S HLe.rfl r.ab (.bl b) h⟩
theorem se_non {j} : SE X (.Constant .none j pos) (dC .non) := fun _ _ _ => ⟨_, pe_non, fun σ H τ S Q R r h k => k _ H _ S HLe.rfl r.ab .non h⟩
theorem se_str {x : Str} {j} : SE X (.Constant (.str x) j pos) (dC (.str x)) := fun _ _ _ => ⟨_, pe_str, fun σ H τ S Q R r h k => k _ H _ S HLe.rfl r.ab (.str x) h⟩
/-- a constant of the module -/
theorem se_glob {x : Str} {d : D} {v : V} {w : Value} (hg : Gl X x) (hm : X.mg x = some w) (r : RelV v w) (hd : ∀ H, Dt X.K H d v) (hdb : (x == ("__debug__" : Str)) = false) : SE X (.Name x pos) (dC d) :=
  fun _ _ _ => ⟨_, pe_glob hg hm r hdb, fun σ H τ S Q R rl h k => k _ H _ S HLe.rfl rl.ab (hd H) h⟩
def dBin (pr : D → D → SH → Res) (ta tb : DE) : DE := fun E τ S Q => ta E τ S fun x S1 => tb E τ S1 fun y S2 => resW (pr x y S2) S2 Q
/-- two expressions, one behind the other -/
theorem two {tt1 tt2 : TE} {ED : EK} {σ : L2.St} {H0 H : Hp} {τ : SDl} {S : SH} {R' : V → V → Hp → Prop} {P : D → D → SH → Prop}
    (h1 : ∀ (σ : L2.St) (H : Hp) (τ : SDl) (S : SH) (Q : QE) (R : VK), Rl X.K H0 H σ τ S → ta ED τ S Q → (∀ v H' d S', HLe H H' → Abs X.K H' S' → Dt X.K H' d v → Q d S' → R v H') → tt1 σ H R)
    (h2 : ∀ (σ : L2.St) (H : Hp) (τ : SDl) (S : SH) (Q : QE) (R : VK), Rl X.K H0 H σ τ S → tb ED τ S Q → (∀ v H' d S', HLe H H' → Abs X.K H' S' → Dt X.K H' d v → Q d S' → R v H') → tt2 σ H R)
    (r : Rl X.K H0 H σ τ S) (h : ta ED τ S fun x S1 => tb ED τ S1 fun y S2 => P x y S2)
    (k : ∀ v u H' x y S', HLe H H' → Abs X.K H' S' → Dt X.K H' x v → Dt X.K H' y u → P x y S' → R' v u H') : tt1 σ H fun v H1 => tt2 σ H1 fun u H2 => R' v u H2 := by
  refine h1 σ H τ S _ _ r h fun v H1 x S1 m1 a1 d1 q1 => ?_
  refine h2 σ H1 τ S1 _ _ (r.mono m1 a1) q1 fun u H2 y S2 m2 a2 d2 q2 => ?_
  exact k v u H2 x y S2 (m1.trans m2) a2 (d1.mono m2) d2 q2
theorem se_bin {op : Operator} {pr : D → D → SH → Res} (ho : OpD X (binaryOp op) pr) (ha : SE X a ta) (hb : SE X b tb) : SE X (.BinOp a op b pos) (dBin pr ta tb) := by
  intro ED H0 tk
  obtain ⟨ra, pa, ka⟩ := ha ED H0 tk
  obtain ⟨rb, pb, kb⟩ := hb ED H0 tk
  obtain ⟨r2, o1, o2⟩ := ho
  refine ⟨_, pe_op o1 pa pb, fun σ H τ S Q R r h k => ?_⟩
  exact two ka kb r h fun v u H' x y S' m a' d1 d2 q => o2 x y v u H' S' Q R a' d1 d2 q fun v' H'' d S'' m' => k v' H'' d S'' (m.trans m')
theorem se_cmp {op : CmpOp} {pr : D → D → SH → Res} (ho : OpD X (compareOp op) pr) (ha : SE X a ta) (hb : SE X b tb) (hm : behindInMarks op b = false) : SE X (.Compare a [op] [b] pos) (dBin pr ta tb) := by
  intro ED H0 tk
  obtain ⟨ra, pa, ka⟩ := ha ED H0 tk
  obtain ⟨rb, pb, kb⟩ := hb ED H0 tk
  obtain ⟨r2, o1, o2⟩ := ho
  refine ⟨_, pe_cmpR o1 pa pb hm, fun σ H τ S Q R r h k => ?_⟩
  exact two ka kb r h fun v u H' x y S' m a' d1 d2 q => o2 x y v u H' S' Q R a' d1 d2 q fun v' H'' d S'' m' => k v' H'' d S'' (m.trans m')
/-- the truth of a bool -/
def isB (Q : Bool → SH → Prop) : QE := fun d S => match d with
  | .bl b => Q b S
  | _ => False
theorem isB_of {K : PySem.W.Frag} {Q : Bool → SH → Prop} {d : D} {v : V} {H : Hp} {S : SH} (h : isB Q d S) (r : Dt K H d v) : ∃ b, v = .bl b ∧ Q b S := by
  cases d with
  | bl b => cases r; exact ⟨b, rfl, h⟩
  | _ => exact h.elim
def dTst (te : DE) : DT := fun E τ S Q => te E τ S (isB Q)
theorem st_cmp {op : CmpOp} {pr : D → D → SH → Res} (ho : OpD X (compareOp op) pr) (ha : SE X a ta) (hb : SE X b tb) (hm : behindInMarks op b = false) : ST X (.Compare a [op] [b] pos) (dTst (dBin pr ta tb)) := by
  intro ED H0 tk
  obtain ⟨ra, pa, ka⟩ := ha ED H0 tk
  obtain ⟨rb, pb, kb⟩ := hb ED H0 tk
  obtain ⟨r2, o1, o2⟩ := ho
  refine ⟨_, pt_cmpR o1 pa pb hm, fun σ H τ S Q R r h k => ?_⟩
  refine two ka kb r h fun v u H' x y S' m a' d1 d2 q => o2 x y v u H' S' _ _ a' d1 d2 q fun v' H'' d S'' m' a'' d' q' => ?_
  obtain ⟨b, e, q2⟩ := isB_of q' d'
  exact ⟨b, e, k b H'' S'' (m.trans m') a'' q2⟩
theorem st_val (he : SE X e te) (hp : ∀ whole, isTrue e X.env whole = (do let v ← whole; standAt e.pos; holding [v] (truthy v))) : ST X e (dTst te) := by
  intro ED H0 tk
  obtain ⟨ra, pa, ka⟩ := he ED H0 tk
  refine ⟨_, pt_val pa hp, fun σ H τ S Q R r h k => ?_⟩
  refine ka σ H τ S _ _ r h fun v H' d S' m a' d' q => ?_
  obtain ⟨b, e, q2⟩ := isB_of q d'
  exact ⟨b, e, k b H' S' m a' q2⟩
def dAndT (t u : DT) : DT := fun E τ S Q => t E τ S fun b S1 => if b = true then u E τ S1 Q else Q false S1
def dOrT (t u : DT) : DT := fun E τ S Q => t E τ S fun b S1 => if b = true then Q true S1 else u E τ S1 Q
def dNotT (t : DT) : DT := fun E τ S Q => t E τ S fun b S1 => Q (!b) S1
theorem sw_and1 (ha : ST X a t) : SW X (.BoolOp .And [a] pos) t := fun ED H0 tk => let ⟨r, p, k⟩ := ha ED H0 tk; ⟨r, pw_and1 p, k⟩
theorem sw_or1 (ha : ST X a t) : SW X (.BoolOp .Or [a] pos) t := fun ED H0 tk => let ⟨r, p, k⟩ := ha ED H0 tk; ⟨r, pw_or1 p, k⟩
theorem sw_and (ha : ST X a t) (hb : SW X (.BoolOp .And (b :: es) pos) u) : SW X (.BoolOp .And (a :: b :: es) pos) (dAndT t u) := by
  intro ED H0 tk
  obtain ⟨ra, pa, ka⟩ := ha ED H0 tk
  obtain ⟨rb, pb, kb⟩ := hb ED H0 tk
  refine ⟨_, pw_and pa pb, fun σ H τ S Q R r h k => ?_⟩
  refine ka σ H τ S _ _ r h fun b H' S' m a' q => ?_
  cases b with
  | true => exact kb σ H' τ S' Q R (r.mono m a') q fun b H'' S'' m' => k b H'' S'' (m.trans m')
  | false => exact k false H' S' m a' q
theorem sw_or (ha : ST X a t) (hb : SW X (.BoolOp .Or (b :: es) pos) u) : SW X (.BoolOp .Or (a :: b :: es) pos) (dOrT t u) := by
  intro ED H0 tk
  obtain ⟨ra, pa, ka⟩ := ha ED H0 tk
  obtain ⟨rb, pb, kb⟩ := hb ED H0 tk
  refine ⟨_, pw_or pa pb, fun σ H τ S Q R r h k => ?_⟩
  refine ka σ H τ S _ _ r h fun b H' S' m a' q => ?_
  cases b with
  | true => exact k true H' S' m a' q
  | false => exact kb σ H' τ S' Q R (r.mono m a') q fun b H'' S'' m' => k b H'' S'' (m.trans m')
theorem SW.st (h : SW X e t) : ST X e t := fun ED H0 tk => let ⟨r, p, k⟩ := h ED H0 tk; ⟨r, p.pt, k⟩
theorem st_not (ha : ST X a t) : ST X (.UnaryOp .Not a pos) (dNotT t) := by
  intro ED H0 tk
  obtain ⟨ra, pa, ka⟩ := ha ED H0 tk
  exact ⟨_, pt_not pa, fun σ H τ S Q R r h k => ka σ H τ S _ _ r h fun b H' S' m a' q => k _ H' S' m a' q⟩
/-- as values -/
def dAnd (ta tb : DE) : DE := fun E τ S Q => ta E τ S (isB fun b S1 => if b = true then tb E τ S1 Q else Q (.bl false) S1)
def dOr (ta tb : DE) : DE := fun E τ S Q => ta E τ S (isB fun b S1 => if b = true then Q (.bl true) S1 else tb E τ S1 Q)
def dNot (ta : DE) : DE := fun E τ S Q => ta E τ S (isB fun b S1 => Q (.bl (!b)) S1)
theorem se_one {op} (h : SE X a ta) : SE X (.BoolOp op [a] pos) ta := fun ED H0 tk => let ⟨r, p, k⟩ := h ED H0 tk; ⟨r, pe_one p, k⟩
theorem se_and (ha : SE X a ta) (hb : SE X (.BoolOp .And (b :: es) pos) tb) : SE X (.BoolOp .And (a :: b :: es) pos) (dAnd ta tb) := by
  intro ED H0 tk
  obtain ⟨ra, pa, ka⟩ := ha ED H0 tk
  obtain ⟨rb, pb, kb⟩ := hb ED H0 tk
  refine ⟨_, pe_and pa pb, fun σ H τ S Q R r h k => ?_⟩
  refine ka σ H τ S _ _ r h fun v H' d S' m a' d' q => ?_
  obtain ⟨b, e, q⟩ := isB_of q d'
  refine ⟨b, e, ?_⟩
  cases b with
  | true => exact kb σ H' τ S' Q R (r.mono m a') q fun v H'' d S'' m' => k v H'' d S'' (m.trans m')
  | false => exact k _ H' _ S' m a' (.bl false) q
theorem se_or (ha : SE X a ta) (hb : SE X (.BoolOp .Or (b :: es) pos) tb) : SE X (.BoolOp .Or (a :: b :: es) pos) (dOr ta tb) := by
  intro ED H0 tk
  obtain ⟨ra, pa, ka⟩ := ha ED H0 tk
  obtain ⟨rb, pb, kb⟩ := hb ED H0 tk
  refine ⟨_, pe_or pa pb, fun σ H τ S Q R r h k => ?_⟩
  refine ka σ H τ S _ _ r h fun v H' d S' m a' d' q => ?_
  obtain ⟨b, e, q⟩ := isB_of q d'
  refine ⟨b, e, ?_⟩
  cases b with
  | true => exact k _ H' _ S' m a' (.bl true) q
  | false => exact kb σ H' τ S' Q R (r.mono m a') q fun v H'' d S'' m' => k v H'' d S'' (m.trans m')
theorem se_not (ha : SE X a ta) : SE X (.UnaryOp .Not a pos) (dNot ta) := by
  intro ED H0 tk
  obtain ⟨ra, pa, ka⟩ := ha ED H0 tk
  refine ⟨_, pe_not pa, fun σ H τ S Q R r h k => ?_⟩
  refine ka σ H τ S _ _ r h fun v H' d S' m a' d' q => ?_
  obtain ⟨b, e, q⟩ := isB_of q d'
  exact ⟨b, e, k _ H' _ S' m a' (.bl _) q⟩
def dIf (t : DT) (ta tb : DE) : DE := fun E τ S Q => t E τ S fun b S1 => if b = true then ta E τ S1 Q else tb E τ S1 Q
theorem se_if (hc : ST X c t) (ha : SE X a ta) (hb : SE X b tb) : SE X (.IfExp c a b pos) (dIf t ta tb) := by
  intro ED H0 tk
  obtain ⟨rc, pc, kc⟩ := hc ED H0 tk
  obtain ⟨ra, pa, ka⟩ := ha ED H0 tk
  obtain ⟨rb, pb, kb⟩ := hb ED H0 tk
  refine ⟨_, pe_ifExp pc pa pb, fun σ H τ S Q R r h k => ?_⟩
  refine kc σ H τ S _ _ r h fun b H' S' m a' q => ?_
  cases b with
  | true => exact ka σ H' τ S' Q R (r.mono m a') q fun v H'' d S'' m' => k v H'' d S'' (m.trans m')
  | false => exact kb σ H' τ S' Q R (r.mono m a') q fun v H'' d S'' m' => k v H'' d S'' (m.trans m')
/-- arguments -/
def dNil : DA := fun _ _ S Q => Q [] S
def dCons (te : DE) (ts : DA) : DA := fun E τ S Q => te E τ S fun x S1 => ts E τ S1 fun xs S2 => Q (x :: xs) S2
theorem sa_nil : SA X [] dNil := fun _ _ _ => ⟨_, pa_nil, fun σ H τ S Q R r h k => k [] H [] S HLe.rfl r.ab .nil h⟩
theorem sa_cons (ha : SE X e te) (hr : SA X es ts) (hs : starEach (e :: es) X.env = (false, eval e X.env) :: starEach es X.env) : SA X (e :: es) (dCons te ts) := by
  intro ED H0 tk
  obtain ⟨ra, pa, ka⟩ := ha ED H0 tk
  obtain ⟨rb, pb, kb⟩ := hr ED H0 tk
  refine ⟨_, pa_cons pa pb hs, fun σ H τ S Q R r h k => ?_⟩
  refine ka σ H τ S _ _ r h fun v H1 d S1 m a1 d1 q => ?_
  refine kb σ H1 τ S1 _ _ (r.mono m a1) q fun vs H2 ds S2 m2 a2 d2 q2 => ?_
  exact k (v :: vs) H2 (d :: ds) S2 (m.trans m2) a2 (.cons (d1.mono m2) d2) q2
/-- a list of written items -/
def dLst (ts : DA) : DE := fun E τ S Q => ts E τ S fun xs S1 => xs.length ≤ sizeLine ∧ ∀ p, S1 p = none → Q (.ref p) (sup S1 p (.lst xs))
theorem se_lst (h : SA X es ts) : SE X (.List es pos) (dLst ts) := by
  intro ED H0 tk
  obtain ⟨ra, pa, ka⟩ := h ED H0 tk
  refine ⟨_, pe_lst pa, fun σ H τ S Q R r h k => ?_⟩
  refine ka σ H τ S _ _ r h fun vs H1 ds S1 m a1 d1 q => ?_
  refine ⟨by rw [← d1.length]; exact q.1, fun p hp => ?_⟩
  exact k _ _ (.ref p) _ (m.trans (HLe.new hp)) (a1.new hp ⟨vs, upd_same, d1.mono (HLe.new hp)⟩) (.ref p) (q.2 p (a1.free hp))
/-- a tuple of written items: as it lies -/
theorem pe_tupF {ts : TA} {x1} (h : PA X es ts) : PE X (.Tuple es x1 pos) (fun σ H Q => ts σ H fun xs H1 => xs.length ≤ sizeLine ∧ ∀ p o, H1 p = none → o.dict = none → Q (.ref p) (upd H1 p (.frz o (.tup xs)))) := by
  refine ⟨fun pins s σ H Q I hq => ?_⟩
  refine wpAny_Tuple_spliced (thn (h.run pos pins s σ H _ I hq) fun us s1 ⟨xs, H1, I1, r, z, q⟩ => ⟨by rw [← r.length]; exact z, ?_⟩)
  have hf : H1 s1.heap.objs.size = none := I1.hok.fresh (Nat.le_refl _)
  refine ⟨.ref s1.heap.objs.size, _, I1.laid (t' := s1.toks) (o := .frz { cls := .type "tuple", data := .seq us.toArray } (.tup xs)) (fun b u e => Heap.get?_push_of_some _ e) (Nat.le_refl _) ?_, rfl, q _ _ hf rfl⟩
  exact ⟨Heap.get?_push_size _ rfl, z, us, r, ⟨_, Heap.get?_push_size _ rfl, rfl, _, rfl⟩⟩
theorem tupAt_new {K : PySem.W.Frag} {H : Hp} {p : Addr} {o : Obj} {xs : List V} (hd : o.dict = none) : TupAt K (upd H p (.frz o (.tup xs))) p xs := .inl ⟨o, upd_same, hd⟩
def dTup (ts : DA) : DE := fun E τ S Q => ts E τ S fun xs S1 => xs.length ≤ sizeLine ∧ Q (.tup xs) S1
theorem se_tup {x1} (h : SA X es ts) : SE X (.Tuple es x1 pos) (dTup ts) := by
  intro ED H0 tk
  obtain ⟨ra, pa, ka⟩ := h ED H0 tk
  refine ⟨_, pe_tupF pa, fun σ H τ S Q R r h k => ?_⟩
  refine ka σ H τ S _ _ r h fun vs H1 ds S1 m a1 d1 q => ?_
  refine ⟨by rw [← d1.length]; exact q.1, fun p o hp hd => ?_⟩
  exact k _ _ (.tup ds) _ (m.trans (HLe.new hp)) (a1.hid hp) (.tup (tupAt_new hd) (d1.mono (HLe.new hp))) q.2
/-- a built-in function, a built-in class called -/
def dCB (pr : List D → SH → Res) (ts : DA) : DE := fun E τ S Q => ts E τ S fun xs S1 => resW (pr xs S1) S1 Q
theorem se_callB {id : String} {x : Str} {p : Pos} {pr : List D → SH → Res} (hc : CallD X (.builtin id) pr) (hg : Gl X x) (hm : X.mg x = none) (hv : bootBuiltins x = some (.builtin id)) (ha : SA X (e :: es) ts) (hn : x ≠ "__name__") (hdb : (x == ("__debug__" : Str)) = false)
    (he : starEach (e :: es) X.env = (false, eval e X.env) :: starEach es X.env) (hpl : (backTo pos (starEach es X.env)).any (·.1) = false) : SE X (.Call (.Name x p) (e :: es) [] pos) (dCB pr ts) := by
  intro ED H0 tk
  obtain ⟨ra, pa, ka⟩ := ha ED H0 tk
  obtain ⟨r2, o1, o2⟩ := hc
  refine ⟨_, pe_callB o1 hg hm hv pa hn hdb he hpl, fun σ H τ S Q R r h k => ?_⟩
  refine ka σ H τ S _ _ r h fun vs H1 ds S1 m a1 d1 q => ?_
  exact o2 ds vs H1 S1 Q R a1 d1 q fun v' H'' d S'' m' => k v' H'' d S'' (m.trans m')
theorem se_callTy {T : String} {x : Str} {p : Pos} {pr : List D → SH → Res} (hc : CallD X (.type T) pr) (hg : Gl X x) (hm : X.mg x = none) (hv : bootBuiltins x = some (.type T)) (ha : SA X (e :: es) ts) (hn : x ≠ "__name__") (hdb : (x == ("__debug__" : Str)) = false)
    (he : starEach (e :: es) X.env = (false, eval e X.env) :: starEach es X.env) (hpl : (backTo pos (starEach es X.env)).any (·.1) = false) : SE X (.Call (.Name x p) (e :: es) [] pos) (dCB pr ts) := by
  intro ED H0 tk
  obtain ⟨ra, pa, ka⟩ := ha ED H0 tk
  obtain ⟨r2, o1, o2⟩ := hc
  refine ⟨_, pe_callTy o1 hg hm hv pa hn hdb he hpl, fun σ H τ S Q R r h k => ?_⟩
  refine ka σ H τ S _ _ r h fun vs H1 ds S1 m a1 d1 q => ?_
  exact o2 ds vs H1 S1 Q R a1 d1 q fun v' H'' d S'' m' => k v' H'' d S'' (m.trans m')
/-- o[i] -/
theorem se_ix {pr : D → D → SH → Res} (ho : IxD X pr) (ha : SE X a ta) (hb : SE X b tb) (hs : PlainIx b) : SE X (.Subscript a b pos) (dBin pr ta tb) := by
  intro ED H0 tk
  obtain ⟨ra, pa, ka⟩ := ha ED H0 tk
  obtain ⟨rb, pb, kb⟩ := hb ED H0 tk
  obtain ⟨r2, o1, o2⟩ := ho
  refine ⟨_, pe_ix o1 pa pb hs, fun σ H τ S Q R r h k => ?_⟩
  exact two ka kb r h fun v u H' x y S' m a' d1 d2 q => o2 x y v u H' S' Q R a' d1 d2 q fun v' H'' d S'' m' => k v' H'' d S'' (m.trans m')
theorem se_un {op : UnaryOp} {pr : D → SH → Res} (ho : UnD X (unaryOp op) pr) (ha : SE X a ta) : SE X (.UnaryOp op a pos) (fun E τ S Q => ta E τ S fun x S1 => resW (pr x S1) S1 Q) := by
  intro ED H0 tk
  obtain ⟨ra, pa, ka⟩ := ha ED H0 tk
  obtain ⟨r2, o1, o2⟩ := ho
  refine ⟨_, pe_un o1 pa, fun σ H τ S Q R r h k => ?_⟩
  refine ka σ H τ S _ _ r h fun v H1 d S1 m a1 d1 q => ?_
  exact o2 d v H1 S1 Q R a1 d1 q fun v' H'' d S'' m' => k v' H'' d S'' (m.trans m')
/-- a < b < c -/
def dChain (pr pr' : D → D → SH → Res) (ta tb tc : DE) : DE := fun E τ S Q => ta E τ S fun x S1 => tb E τ S1 fun y S2 => resW (pr x y S2) S2 (isB fun b S3 =>
  if b = true then tc E τ S3 fun z S4 => resW (pr' y z S4) S4 Q else Q (.bl false) S3)
theorem se_chain {op op' : CmpOp} {pr pr' : D → D → SH → Res} (ho : OpD X (compareOp op) pr) (ho' : OpD X (compareOp op') pr') (ha : SE X a ta) (hb : SE X b tb) (hc : SE X c tc) (hm : lastMarks [op, op'] [b, c] = false) : SE X (.Compare a [op, op'] [b, c] pos) (dChain pr pr' ta tb tc) := by
  intro ED H0 tk
  obtain ⟨ra, pa, ka⟩ := ha ED H0 tk
  obtain ⟨rb, pb, kb⟩ := hb ED H0 tk
  obtain ⟨rc, pc, kc⟩ := hc ED H0 tk
  obtain ⟨r1, o1, o2⟩ := ho
  obtain ⟨r2, o3, o4⟩ := ho'
  refine ⟨_, pe_chain o1 o3 pa pb pc hm, fun σ H τ S Q R r h k => ?_⟩
  refine two ka kb r h fun v u H' x y S' m a' d1 d2 q => o2 x y v u H' S' _ _ a' d1 d2 q fun v' H'' d S'' m' a'' d' q' => ?_
  obtain ⟨b, e, q2⟩ := isB_of q' d'
  refine ⟨b, e, ?_⟩
  cases b with
  | false => exact k _ H'' _ S'' (m.trans m') a'' (.bl false) q2
  | true =>
    refine kc σ H'' τ S'' _ _ (r.mono (m.trans m') a'') q2 fun w H3 z S3 m3 a3 d3 q3 => ?_
    exact o4 y z u w H3 S3 Q R a3 ((d2.mono m').mono m3) d3 q3 fun v' H4 d S4 m4 => k v' H4 d S4 (((m.trans m').trans m3).trans m4)
theorem st_chain {op op' : CmpOp} {pr pr' : D → D → SH → Res} (ho : OpD X (compareOp op) pr) (ho' : OpD X (compareOp op') pr') (ha : SE X a ta) (hb : SE X b tb) (hc : SE X c tc) (hm : lastMarks [op, op'] [b, c] = false) : ST X (.Compare a [op, op'] [b, c] pos) (dTst (dChain pr pr' ta tb tc)) := by
  intro ED H0 tk
  obtain ⟨ra, pa, ka⟩ := ha ED H0 tk
  obtain ⟨rb, pb, kb⟩ := hb ED H0 tk
  obtain ⟨rc, pc, kc⟩ := hc ED H0 tk
  obtain ⟨r1, o1, o2⟩ := ho
  obtain ⟨r2, o3, o4⟩ := ho'
  refine ⟨_, pt_chain o1 o3 pa pb pc hm, fun σ H τ S Q R r h k => ?_⟩
  refine two ka kb r h fun v u H' x y S' m a' d1 d2 q => o2 x y v u H' S' _ _ a' d1 d2 q fun v' H'' d S'' m' a'' d' q' => ?_
  obtain ⟨b, e, q2⟩ := isB_of q' d'
  refine ⟨b, e, ?_⟩
  cases b with
  | false => exact ⟨false, rfl, k _ H'' S'' (m.trans m') a'' q2⟩
  | true =>
    refine kc σ H'' τ S'' _ _ (r.mono (m.trans m') a'') q2 fun w H3 z S3 m3 a3 d3 q3 => ?_
    refine o4 y z u w H3 S3 _ _ a3 ((d2.mono m').mono m3) d3 q3 fun v' H4 d S4 m4 a4 d4 q4 => ?_
    obtain ⟨b, e, q5⟩ := isB_of q4 d4
    exact ⟨b, e, k b H4 S4 (((m.trans m').trans m3).trans m4) a4 q5⟩
end
end DL

set_option Elab.async false
set_option linter.all false
set_option maxRecDepth 100000
set_option maxHeartbeats 1000000
namespace DL
open PySem PySem.Spec PyProof.Rows L2

/-! ### what is never reached -/
def dFail : DE := fun _ _ _ _ => False
def dFailT : DT := fun _ _ _ _ => False
def dFailA : DA := fun _ _ _ _ => False
def dFailS : DS := fun _ _ _ _ => False
section
variable {X : Cx} {a b c e : Expr} {es : List Expr} {ta tb tc te : DE} {t u : DT} {ts : DA} {pos : Pos} {st : Stmt} {rest : List Stmt} {s1 s2 : DS}
theorem se_fail : SE X e dFail := fun _ _ _ => ⟨fun _ _ _ => False, ⟨fun _ _ _ _ _ _ h => h.elim⟩, fun _ _ _ _ _ _ _ h _ => h.elim⟩
theorem st_fail : ST X e dFailT := fun _ _ _ => ⟨fun _ _ _ => False, ⟨fun _ _ _ _ _ _ h => h.elim⟩, fun _ _ _ _ _ _ _ h _ => h.elim⟩
theorem sw_fail : SW X e dFailT := fun _ _ _ => ⟨fun _ _ _ => False, ⟨fun _ _ _ _ _ _ _ h => h.elim⟩, fun _ _ _ _ _ _ _ h _ => h.elim⟩
theorem sa_fail : SA X es dFailA := fun _ _ _ => ⟨fun _ _ _ => False, ⟨fun _ _ _ _ _ _ _ h => h.elim⟩, fun _ _ _ _ _ _ _ h _ => h.elim⟩
theorem ss_fail : SS X st dFailS := fun _ _ _ _ => ⟨tNever, ps_never, fun _ _ _ _ _ _ _ h _ => h.elim⟩
theorem sss_fail : SSs X rest dFailS := fun _ _ _ _ => ⟨tNever, pss_never, fun _ _ _ _ _ _ _ h _ => h.elim⟩

/-! ### statements -/
def dNext : DS := fun _ DD τ S => DD.nx τ S
def dSeq (s1 s2 : DS) : DS := fun E DD τ S => s1 E { DD with nx := fun τ' S' => s2 E DD τ' S' } τ S
theorem sss_nil : SSs X [] dNext := fun _ _ _ _ => ⟨_, pss_nil, fun σ H τ S DD D' r h k => k.nx σ H τ S HLe.rfl r h⟩
theorem sss_cons (h1 : SS X st s1) (h2 : SSs X rest s2) : SSs X (st :: rest) (dSeq s1 s2) := by
  intro po ED H0 tk
  obtain ⟨ra, pa, ka⟩ := h1 po ED H0 tk
  obtain ⟨rb, pb, kb⟩ := h2 po ED H0 tk
  refine ⟨_, pss_cons pa pb, fun σ H τ S DD D' r h k => ?_⟩
  exact ka σ H τ S _ _ r h ⟨fun σ' H' τ' S' m r' q => kb σ' H' τ' S' DD D' r' q (k.mono m), k.rt, k.bk, k.ct⟩
theorem sss_one (h1 : SS X st s1) : SSs X [st] s1 := fun po ED H0 tk => let ⟨r, p, k⟩ := h1 po ED H0 tk; ⟨r, pss_one p, k⟩
theorem ss_pass : SS X (.Pass pos) dNext := fun _ _ _ _ => ⟨_, ps_pass, fun σ H τ S DD D' r h k => k.nx σ H τ S HLe.rfl r h⟩
def dBreak : DS := fun _ DD τ S => DD.bk τ S
def dCont : DS := fun _ DD τ S => DD.ct τ S
theorem ss_break : SS X (.Break pos) dBreak := fun _ _ _ _ => ⟨_, ps_break, fun σ H τ S DD D' r h k => k.bk σ H τ S HLe.rfl r h⟩
theorem ss_cont : SS X (.Continue pos) dCont := fun _ _ _ _ => ⟨_, ps_continue, fun σ H τ S DD D' r h k => k.ct σ H τ S HLe.rfl r h⟩
theorem ss_doc {x j pos'} : SS X (.Expr (.Constant (.str x) j pos) pos') dNext := fun _ _ _ _ => ⟨_, ps_doc, fun σ H τ S DD D' r h k => k.nx σ H τ S HLe.rfl r h⟩
def dExpr (te : DE) : DS := fun E DD τ S => te E τ S fun _ S1 => DD.nx τ S1
theorem ss_expr (he : SE X e te) (hs : swapsWith e none pos.line X.env = pure false) : SS X (.Expr e pos) (dExpr te) := by
  intro _ ED H0 tk
  obtain ⟨ra, pa, ka⟩ := he ED H0 tk
  refine ⟨_, ps_expr pa hs, fun σ H τ S DD D' r h k => ?_⟩
  exact ka σ H τ S _ _ r h fun v H' d S' m a' d' q => k.nx σ H' τ S' m (r.mono m a') q
def dRet (te : DE) : DS := fun E DD τ S => te E τ S fun d S1 => wk (DD.rt d) S1
theorem ss_ret (he : SE X e te) : SS X (.Return (some e) pos) (dRet te) := by
  intro _ ED H0 tk
  obtain ⟨ra, pa, ka⟩ := he ED H0 tk
  refine ⟨_, ps_ret pa, fun σ H τ S DD D' r h k => ?_⟩
  refine ka σ H τ S _ _ r h fun v H' d S' m a' d' ⟨S'', l, q⟩ => k.rt v H' d S'' m (a'.le l) d' q
def dRetN : DS := fun _ DD _ S => wk (DD.rt .non) S
theorem ss_retN : SS X (.Return none pos) dRetN := fun _ _ _ _ => ⟨_, ps_retN, fun σ H τ S DD D' r ⟨S'', l, q⟩ k => k.rt .non H .non S'' HLe.rfl (r.ab.le l) .non q⟩
def dIfS (t : DT) (s1 s2 : DS) : DS := fun E DD τ S => t E τ S fun b S1 => if b = true then s1 E DD τ S1 else s2 E DD τ S1
theorem ss_if {xs ys : List Stmt} (hc : ST X c t) (ha : SSs X xs s1) (hb : SSs X ys s2) : SS X (.If c xs ys pos) (dIfS t s1 s2) := by
  intro po ED H0 tk
  obtain ⟨rc, pc, kc⟩ := hc ED H0 tk
  obtain ⟨ra, pa, ka⟩ := ha po ED H0 tk
  obtain ⟨rb, pb, kb⟩ := hb po ED H0 tk
  refine ⟨_, ps_if pc pa pb, fun σ H τ S DD D' r h k => ?_⟩
  refine kc σ H τ S _ _ r h fun b H' S' m a' q => ?_
  cases b with
  | true => exact ka σ H' τ S' DD D' (r.mono m a') q (k.mono m)
  | false => exact kb σ H' τ S' DD D' (r.mono m a') q (k.mono m)

/-! ### targets -/
abbrev DG := D → EK → SDl → SH → (SDl → SH → Prop) → Prop
abbrev DGs := List D → EK → SDl → SH → (SDl → SH → Prop) → Prop
def SG (X : Cx) (tg : Expr) (g : DG) : Prop := ∀ ED H0, Takes X (liftE X.K H0 ED) → ∃ gg : TG, PG X tg gg ∧
  ∀ (d : D) (v : V) (σ : L2.St) (H : Hp) (τ : SDl) (S : SH) (Q : SDl → SH → Prop) (R : L2.St → Hp → Prop), Rl X.K H0 H σ τ S → Dt X.K H d v → g d ED τ S Q →
    (∀ σ' H' τ' S', HLe H H' → Rl X.K H0 H' σ' τ' S' → Q τ' S' → R σ' H') → gg v σ H R
def SGs (X : Cx) (tgs : List Expr) (g : DGs) : Prop := ∀ ED H0, Takes X (liftE X.K H0 ED) → ∃ gg : TGs, PGs X tgs gg ∧
  ∀ (ds : List D) (vs : List V) (σ : L2.St) (H : Hp) (τ : SDl) (S : SH) (Q : SDl → SH → Prop) (R : L2.St → Hp → Prop), Rl X.K H0 H σ τ S → DtL X.K H ds vs → g ds ED τ S Q →
    (∀ σ' H' τ' S', HLe H H' → Rl X.K H0 H' σ' τ' S' → Q τ' S' → R σ' H') → gg vs σ H R
def kName (i : Nat) : DG := fun d _ τ S Q => Q (τ.set i (some d)) S
theorem sg_name {i : Nat} {x : Str} (hN : X.N.Nodup) (hi : X.N[i]? = some x) (hx : Loc X.env.scope x) (hf : X.fn x = true ∨ X.env.scope.names.lookup x = some .local) : SG X (.Name x pos) (kName i) :=
  fun _ _ _ => ⟨_, pg_name hN hi hx hf, fun d v σ H τ S Q R r dv h k => k _ H _ S HLe.rfl (r.set dv) h⟩
def kNil : DGs := fun ds _ τ S Q => match ds with
  | [] => Q τ S
  | _ => False
def kCons (g : DG) (gs : DGs) : DGs := fun ds E τ S Q => match ds with
  | d :: r => g d E τ S fun τ' S' => gs r E τ' S' Q
  | [] => False
theorem sgs_nil : SGs X [] kNil := fun _ _ _ => ⟨_, pgs_nil, fun ds vs σ H τ S Q R r dv h k => by
  cases dv with
  | nil => exact ⟨rfl, k σ H τ S HLe.rfl r h⟩
  | cons _ _ => exact h.elim⟩
theorem sgs_cons {tg : Expr} {tgs : List Expr} {g : DG} {gs : DGs} (h1 : SG X tg g) (h2 : SGs X tgs gs) (hs : (assignEach (tg :: tgs) X.env).map (·.2) = assign tg X.env :: (assignEach tgs X.env).map (·.2)) : SGs X (tg :: tgs) (kCons g gs) := by
  intro ED H0 tk
  obtain ⟨ra, pa, ka⟩ := h1 ED H0 tk
  obtain ⟨rb, pb, kb⟩ := h2 ED H0 tk
  refine ⟨_, pgs_cons pa pb hs, fun ds vs σ H τ S Q R r dv h k => ?_⟩
  cases dv with
  | nil => exact h.elim
  | cons d1 d2 =>
    refine ⟨_, _, rfl, ka _ _ σ H τ S _ _ r d1 h fun σ' H' τ' S' m r' q => ?_⟩
    exact kb _ _ σ' H' τ' S' Q R r' (d2.mono m) q fun σ2 H2 τ2 S2 m2 => k σ2 H2 τ2 S2 (m.trans m2)
/-- (a, b, ..): a tuple, a list of that length -/
def itemsOf (d : D) (S : SH) : Option (List D) := match d with
  | .tup l => some l
  | .fro l => some l
  | .ref a => (match S a with
    | some (.lst l) => some l
    | _ => none)
  | _ => none
def kTup (n : Nat) (gs : DGs) : DG := fun d E τ S Q => match itemsOf d S with
  | some l => l.length = n ∧ gs l E τ S Q
  | none => False
theorem sg_tup {tgs : List Expr} {k : Nat} {gs : DGs} {n : Nat} (hc : X.calm = true) (h : SGs X tgs gs) (hn : (assignEach tgs X.env).length = n) (hst : (assignEach tgs X.env).findIdx? (·.1) = none) : SG X (.Tuple tgs k pos) (kTup n gs) := by
  intro ED H0 tk
  obtain ⟨ra, pa, ka⟩ := h ED H0 tk
  refine ⟨fun v σ H Q => gTup X.K n ra v σ H Q ∨ gLst X.K n ra v σ H Q, ⟨fun pins s σ H v u Q I r hw => ?_⟩, fun d v σ H τ S Q R r dv hh kk => ?_⟩
  · rcases hw with hw | hw
    · exact (pg_tup hc pa hn hst).run pins s σ H v u Q I r hw
    · exact (pg_lst hc pa hn hst).run pins s σ H v u Q I r hw
  · unfold kTup itemsOf at hh
    cases d with
    | tup l =>
      cases dv with
      | tup at' dl => exact .inl ⟨_, _, rfl, at'.sq, by rw [← dl.length]; exact hh.1, ka _ _ σ H τ S Q R r dl hh.2 kk⟩
    | fro l =>
      cases dv with
      | fro at' dl => exact .inr ⟨_, _, rfl, at'.sq, by rw [← dl.length]; exact hh.1, ka _ _ σ H τ S Q R r dl hh.2 kk⟩
    | ref a =>
      cases dv
      cases q : S a with
      | none => simp only [q] at hh
      | some o =>
        cases o with
        | lst l =>
          simp only [q] at hh
          obtain ⟨vs, e1, dl⟩ := r.ab a _ q
          exact .inr ⟨_, _, rfl, SqL.of e1, by rw [← dl.length]; exact hh.1, ka _ _ σ H τ S Q R r dl hh.2 kk⟩
    | _ => exact hh.elim
/-- o[i] = v -/
def SetD (X : Cx) (pr : D → D → D → SH → Res) : Prop := ∃ t : TSet, PSet X t ∧
  ∀ (o i d : D) (ov iv v : V) (H : Hp) (S : SH) (Q : SH → Prop) (R : Hp → Prop), Abs X.K H S → Dt X.K H o ov → Dt X.K H i iv → Dt X.K H d v → resW (pr o i d S) S (fun _ S' => Q S') →
    (∀ H' S', HLe H H' → Abs X.K H' S' → Q S' → R H') → t ov iv v H R
def kSub (pr : D → D → D → SH → Res) (ta tb : DE) : DG := fun d E τ S Q => ta E τ S fun o S1 => tb E τ S1 fun i S2 => resW (pr o i d S2) S2 fun _ S3 => Q τ S3
theorem sg_sub {pr : D → D → D → SH → Res} (ho : SE X a ta) (hi : SE X b tb) (hs : SetD X pr)
    (ha : ∀ v, assign (.Subscript a b pos) X.env v = (do
      let ov ← holding [v] (eval a X.env)
      let iv ← holding [v, ov] (eval b X.env)
      standAt pos
      holding [v, ov, iv] (setItem ov iv v)
      release [v, ov, iv] [])) : SG X (.Subscript a b pos) (kSub pr ta tb) := by
  intro ED H0 tk
  obtain ⟨ra, pa, ka⟩ := ho ED H0 tk
  obtain ⟨rb, pb, kb⟩ := hi ED H0 tk
  obtain ⟨t, o1, o2⟩ := hs
  refine ⟨_, pg_sub pa pb o1 ha, fun d v σ H τ S Q R r dv h k => ?_⟩
  refine two ka kb r h fun v' u H' x y S' m a' d1 d2 q => ?_
  exact o2 x y d v' u v H' S' _ _ a' d1 d2 (dv.mono m) q fun H'' S'' m' a'' q' => k σ H'' τ S'' (m.trans m') (r.mono (m.trans m') a'') q'
/-- target = e -/
def dAsg (te : DE) (g : DG) : DS := fun E DD τ S => te E τ S fun d S1 => g d E τ S1 DD.nx
theorem ss_asg {tg : Expr} {g : DG} (he : SE X e te) (hg : SG X tg g) (hs : swapsWithSole [tg] e pos.line X.env = pure false) (hw : swappedStores [tg] e X.env = pure none) (h1 : (assignEach [tg] X.env).map (·.2) = [assign tg X.env]) : SS X (.Assign [tg] e pos) (dAsg te g) := by
  intro _ ED H0 tk
  obtain ⟨ra, pa, ka⟩ := he ED H0 tk
  obtain ⟨rb, pb, kb⟩ := hg ED H0 tk
  refine ⟨_, ps_asg pa pb hs hw h1, fun σ H τ S DD D' r h k => ?_⟩
  refine ka σ H τ S _ _ r h fun v H' d S' m a' d' q => ?_
  exact kb d v σ H' τ S' _ _ (r.mono m a') d' q fun σ2 H2 τ2 S2 m2 r2 q2 => k.nx σ2 H2 τ2 S2 (m.trans m2) r2 q2
def dSet (i : Nat) (te : DE) : DS := dAsg te (kName i)
theorem ss_set {i : Nat} {x : Str} {pos' : Pos} (hN : X.N.Nodup) (hi : X.N[i]? = some x) (hx : Loc X.env.scope x) (he : SE X e te) (hs : swapsWith e (some (.Name x pos')) pos.line X.env = pure false) (hf : X.fn x = true ∨ X.env.scope.names.lookup x = some .local) :
    SS X (.Assign [.Name x pos'] e pos) (dAsg te (kName i)) := by
  intro _ ED H0 tk
  obtain ⟨ra, pa, ka⟩ := he ED H0 tk
  refine ⟨_, ps_set hN hi hx pa hs hf, fun σ H τ S DD D' r h k => ?_⟩
  exact ka σ H τ S _ _ r h fun v H' d S' m a' d' q => k.nx _ H' _ S' m ((r.mono m a').set d') q
/-- a, b = x, y -/
def dPar (i j : Nat) (ts : DA) : DS := fun E DD τ S => ts E τ S fun ds S1 => match ds with
  | [d, e] => DD.nx ((τ.set i (some d)).set j (some e)) S1
  | _ => False
theorem ss_par {i j : Nat} {x y : Str} {px py pt : Pos} {kt k2 pt2} (hc : X.calm = true) (hN : X.N.Nodup) (hi : X.N[i]? = some x) (hj : X.N[j]? = some y) (hij : i ≠ j)
    (hx : X.env.scope.names.lookup x = some .local) (hy : X.env.scope.names.lookup y = some .local) (ha : SA X [a, b] ts)
    (hw : swappedStores [.Tuple [.Name x px, .Name y py] kt pt] (.Tuple [a, b] k2 pt2) X.env = pure (some [x, y]))
    (hs : swapsWithSole [.Tuple [.Name x px, .Name y py] kt pt] (.Tuple [a, b] k2 pt2) pos.line X.env = pure false) :
    SS X (.Assign [.Tuple [.Name x px, .Name y py] kt pt] (.Tuple [a, b] k2 pt2) pos) (dPar i j ts) := by
  intro _ ED H0 tk
  obtain ⟨ra, pa, ka⟩ := ha ED H0 tk
  refine ⟨_, ps_par hc hN hi hj hij hx hy pa hw hs, fun σ H τ S DD D' r h k => ?_⟩
  refine ka σ H τ S _ _ r h fun vs H' ds S' m a' d' q => ?_
  match ds, q with
  | [d, e], q =>
    obtain ⟨v, u, rfl, d1, d2⟩ := d'.two
    exact ⟨v, u, rfl, k.nx _ H' _ S' m (((r.mono m a').set d1).set d2) q⟩
def dPar3 (i j l : Nat) (ts : DA) : DS := fun E DD τ S => ts E τ S fun ds S1 => match ds with
  | [d, e, f] => DD.nx (((τ.set i (some d)).set j (some e)).set l (some f)) S1
  | _ => False
theorem ss_par3 {i j l : Nat} {x y z : Str} {px py pz pt : Pos} {kt k2 pt2} (hc : X.calm = true) (hN : X.N.Nodup) (hi : X.N[i]? = some x) (hj : X.N[j]? = some y) (hl : X.N[l]? = some z) (hij : i ≠ j) (hil : i ≠ l) (hjl : j ≠ l)
    (hx : X.env.scope.names.lookup x = some .local) (hy : X.env.scope.names.lookup y = some .local) (hz : X.env.scope.names.lookup z = some .local) (ha : SA X [a, b, c] ts)
    (hw : swappedStores [.Tuple [.Name x px, .Name y py, .Name z pz] kt pt] (.Tuple [a, b, c] k2 pt2) X.env = pure (some [x, y, z]))
    (hs : swapsWithSole [.Tuple [.Name x px, .Name y py, .Name z pz] kt pt] (.Tuple [a, b, c] k2 pt2) pos.line X.env = pure false) :
    SS X (.Assign [.Tuple [.Name x px, .Name y py, .Name z pz] kt pt] (.Tuple [a, b, c] k2 pt2) pos) (dPar3 i j l ts) := by
  intro _ ED H0 tk
  obtain ⟨ra, pa, ka⟩ := ha ED H0 tk
  refine ⟨_, ps_par3 hc hN hi hj hl hij hil hjl hx hy hz pa hw hs, fun σ H τ S DD D' r h k => ?_⟩
  refine ka σ H τ S _ _ r h fun vs H' ds S' m a' d' q => ?_
  match ds, q with
  | [d, e, f], q =>
    cases d' with
    | cons d1 d' =>
      obtain ⟨v, u, rfl, d2, d3⟩ := d'.two
      exact ⟨_, v, u, rfl, k.nx _ H' _ S' m ((((r.mono m a').set d1).set d2).set d3) q⟩

/-! ### while -/
/-- n turns at most -/
def dWhN (t : DT) (s1 : DS) : Nat → DS
  | 0 => fun _ _ _ _ => False
  | n + 1 => fun E DD τ S => t E τ S fun b S1 => if b = true then s1 E { DD with nx := fun τ' S' => wk (dWhN t s1 n E DD τ') S', ct := fun τ' S' => wk (dWhN t s1 n E DD τ') S', bk := DD.nx } τ S1 else DD.nx τ S1
def dWhile (t : DT) (s1 : DS) : DS := fun E DD τ S => ∃ n, dWhN t s1 n E DD τ S
theorem ss_while {body : List Stmt} (hc : ST X c t) (hb : SSs X body s1) : SS X (.While c body [] pos) (dWhile t s1) := by
  intro po ED H0 tk
  obtain ⟨rc, pc, kc⟩ := hc ED H0 tk
  obtain ⟨ra, pa, ka⟩ := hb po ED H0 tk
  refine ⟨_, ps_while po pc pa, fun σ H τ S DD D' r h k => ?_⟩
  obtain ⟨n0, h⟩ := h
  refine ⟨fun n σ' H' => HLe H H' ∧ ∃ τ' S', Rl X.K H0 H' σ' τ' S' ∧ dWhN t s1 n ED DD τ' S', ⟨n0, HLe.rfl, τ, S, r, h⟩, ?_⟩
  rintro n σ1 H1 ⟨m1, τ1, S1, r1, h1⟩
  cases n with
  | zero => exact h1.elim
  | succ n =>
    refine kc σ1 H1 τ1 S1 _ _ r1 h1 fun b H2 S2 m2 a2 q => ?_
    cases b with
    | false =>
      rw [if_neg Bool.false_ne_true]
      exact k.nx σ1 H2 τ1 S2 (m1.trans m2) (r1.mono m2 a2) q
    | true =>
      rw [if_pos rfl]
      refine ⟨fun σ' H' => HLe H H' ∧ ∃ τ' S', Rl X.K H0 H' σ' τ' S' ∧ dWhN t s1 n ED DD τ' S', fun σ' H' w => ⟨n, Nat.lt_succ_self n, w⟩, ?_⟩
      refine ka σ1 H2 τ1 S2 _ _ (r1.mono m2 a2) q ⟨fun σ' H' τ' S' m' r' ⟨S'', l, q'⟩ => ⟨(m1.trans m2).trans m', τ', S'', r'.less l, q'⟩, fun v H' d S' m' => k.rt v H' d S' ((m1.trans m2).trans m'), fun σ' H' τ' S' m' => k.nx σ' H' τ' S' ((m1.trans m2).trans m'), fun σ' H' τ' S' m' r' ⟨S'', l, q'⟩ => ⟨(m1.trans m2).trans m', τ', S'', r'.less l, q'⟩⟩
end
end DL

set_option Elab.async false
set_option linter.all false
set_option maxRecDepth 100000
set_option maxHeartbeats 1000000
namespace DL
open PySem PySem.Spec PyProof.Rows L2

/-! ### what is walked -/
/-- at turn i: none: not known; some none: the end; else the item -/
abbrev Src := Nat → SH → Option (Option D)
abbrev DI := EK → SDl → SH → (Src → SH → Prop) → Prop
/-- an item as it comes: data, or (pairs of enumerate, zip) a new pair -/
def YR (K : PySem.W.Frag) (p : Bool) (H : Hp) (d : D) (x : V) : Prop := match p with
  | false => Dt K H d x
  | true => ∃ T v u a b, x = .ref T ∧ H T = some (.tup [v, u]) ∧ d = .tup [a, b] ∧ Dt K H a v ∧ Dt K H b u
structure SrcOk (K : PySem.W.Frag) (p : Bool) (H0 : Hp) (J : It) (src : Src) : Prop where
  stop : ∀ i H S, HLe H0 H → Abs K H S → src i S = some none → J.stop i H
  go : ∀ i H S d, HLe H0 H → Abs K H S → src i S = some (some d) → J.go i H ∧ ∀ x H', J.yld i H x H' → HLe H H' ∧ Abs K H' S ∧ YR K p H' d x
def SI (X : Cx) (p : Bool) (tg iter : Expr) (si : DI) : Prop := ∀ ED H0, Takes X (liftE X.K H0 ED) → ∃ wi : TI, PI X tg iter wi ∧
  ∀ (σ : L2.St) (H : Hp) (τ : SDl) (S : SH) (Q : Src → SH → Prop) (R : It → Hp → Prop), Rl X.K H0 H σ τ S → si ED τ S Q →
    (∀ J H' src S', HLe H H' → Abs X.K H' S' → SrcOk X.K p H' J src → Q src S' → R J H') → wi σ H R
/-- a target of items -/
def SGy (X : Cx) (p : Bool) (tg : Expr) (g : DG) : Prop := ∀ ED H0, Takes X (liftE X.K H0 ED) → ∃ gg : TG, PG X tg gg ∧
  ∀ (d : D) (v : V) (σ : L2.St) (H : Hp) (τ : SDl) (S : SH) (Q : SDl → SH → Prop) (R : L2.St → Hp → Prop), Rl X.K H0 H σ τ S → YR X.K p H d v → g d ED τ S Q →
    (∀ σ' H' τ' S', HLe H H' → Rl X.K H0 H' σ' τ' S' → Q τ' S' → R σ' H') → gg v σ H R
section
variable {X : Cx} {a b c e e2 : Expr} {es : List Expr} {ta tb tc te : DE} {t u : DT} {ts : DA} {pos p : Pos} {st : Stmt} {rest : List Stmt} {s1 s2 : DS} {tg iter : Expr}
theorem SG.y {g : DG} (h : SG X tg g) : SGy X false tg g := h
theorem sgy_tup {tgs : List Expr} {k : Nat} {gs : DGs} (hc : X.calm = true) (h : SGs X tgs gs) (hn : (assignEach tgs X.env).length = 2) (hst : (assignEach tgs X.env).findIdx? (·.1) = none) : SGy X true (.Tuple tgs k pos) (kTup 2 gs) := by
  intro ED H0 tk
  obtain ⟨ra, pa, ka⟩ := h ED H0 tk
  refine ⟨_, pg_tup hc pa hn hst, fun d v σ H τ S Q R r dv hh kk => ?_⟩
  obtain ⟨T, v1, v2, d1, d2, rfl, hT, rfl, x1, x2⟩ := dv
  exact ⟨T, _, rfl, SqT.of hT, rfl, ka _ _ σ H τ S Q R r (.cons x1 (.cons x2 .nil)) hh.2 kk⟩
def srcSeq (l : List D) : Src := fun i _ => some l[i]?
def srcLst (a : Addr) : Src := fun i S => match S a with
  | some (.lst l) => some l[i]?
  | _ => none
/-- what a value gives when it is walked -/
def srcOf (d : D) (S : SH) : Option Src := match d with
  | .tup l => some (srcSeq l)
  | .fro l => some (srcSeq l)
  | .ref a => (match S a with
    | some (.lst _) => some (srcLst a)
    | _ => none)
  | _ => none
def iVal (te : DE) : DI := fun E τ S Q => te E τ S fun d S1 => match srcOf d S1 with
  | some src => Q src S1
  | none => False
theorem srcOk_tup {K : PySem.W.Frag} {H : Hp} {a : Addr} {xs : List V} {l : List D} (h : TupAt K H a xs) (r : DtL K H l xs) : SrcOk K false H (Itt K a) (srcSeq l) where
  stop := fun i H' S m ab e => ⟨xs, (h.mono m).sq, by
    have q : l[i]? = none := Option.some.inj e
    have := List.getElem?_eq_none_iff.mp q
    rw [r.length] at this; exact this⟩
  go := fun i H' S d m ab e => by
    have q : l[i]? = some d := Option.some.inj e
    obtain ⟨v, h1, h2⟩ := r.get q
    exact ⟨⟨xs, v, (h.mono m).sq, h1⟩, fun x H'' ⟨e1, e2⟩ => by
      subst e1
      have q2 := e2 xs (h.mono m).sq
      rw [h1] at q2
      cases q2
      exact ⟨HLe.rfl, ab, h2.mono m⟩⟩
theorem srcOk_fro {K : PySem.W.Frag} {H : Hp} {a : Addr} {xs : List V} {l : List D} (h : FroAt K H a xs) (r : DtL K H l xs) : SrcOk K false H (Itl K a) (srcSeq l) where
  stop := fun i H' S m ab e => ⟨xs, (h.mono m).sq, by
    have q : l[i]? = none := Option.some.inj e
    have := List.getElem?_eq_none_iff.mp q
    rw [r.length] at this; exact this⟩
  go := fun i H' S d m ab e => by
    have q : l[i]? = some d := Option.some.inj e
    obtain ⟨v, h1, h2⟩ := r.get q
    exact ⟨⟨xs, v, (h.mono m).sq, h1⟩, fun x H'' ⟨e1, e2⟩ => by
      subst e1
      have q2 := e2 xs (h.mono m).sq
      rw [h1] at q2
      cases q2
      exact ⟨HLe.rfl, ab, h2.mono m⟩⟩
theorem srcOk_lst {K : PySem.W.Frag} {H : Hp} {a : Addr} : SrcOk K false H (Itl K a) (srcLst a) where
  stop := fun i H' S m ab e => by
    unfold srcLst at e
    split at e
    · rename_i l q
      obtain ⟨vs, e1, r⟩ := ab a _ q
      refine ⟨vs, SqL.of e1, ?_⟩
      have := List.getElem?_eq_none_iff.mp (Option.some.inj e)
      rw [r.length] at this; exact this
    · cases e
  go := fun i H' S d m ab e => by
    unfold srcLst at e
    split at e
    · rename_i l q
      obtain ⟨vs, e1, r⟩ := ab a _ q
      obtain ⟨v, h1, h2⟩ := r.get (Option.some.inj e)
      exact ⟨⟨vs, v, SqL.of e1, h1⟩, fun x H'' ⟨e1', e2⟩ => by
        subst e1'
        have q2 := e2 vs (SqL.of e1)
        rw [h1] at q2
        cases q2
        exact ⟨HLe.rfl, ab, h2⟩⟩
    · cases e
/-- a tuple or a list, by what comes -/
def iSeq (K : PySem.W.Frag) (tl : TE) : TI := fun σ H R => tl σ H fun x H1 => (∃ a, x = .ref a ∧ (∃ xs, SqT K H1 a xs) ∧ R (Itt K a) H1) ∨ (∃ a, x = .ref a ∧ (∃ xs, SqL K H1 a xs) ∧ R (Itl K a) H1)
theorem pi_seq {l : Expr} {tl : TE} (hl : PE X l tl) : PI X tg l (iSeq X.K tl) := by
  refine ⟨fun pins s σ H R I h => ?_⟩
  refine thn (hl.run pins s σ H _ I h) fun v s1 ⟨x, H1, I1, r1, q1⟩ => ?_
  rcases q1 with ⟨a, e, ⟨xs, hq⟩, q⟩ | ⟨a, e, ⟨xs, hq⟩, q⟩
  · subst e
    cases r1
    obtain ⟨its, rv, p, hz⟩ := I1.tuple hq
    refine wpAny_pyIter_tuple (show s1.heap.IsTuple a its.toArray from p) ?_
    refine ⟨s1.heap.objs.size, [s1.heap.objs.size], _, _, H1, rfl, I1.kept (t' := s1.toks) fun b o e => Heap.get?_push_of_some _ e, turn_tuple a _, ⟨_, Heap.get?_push_size _ rfl, rfl, rfl⟩, fun b hb => ?_, q⟩
    have e : b = s1.heap.objs.size := by simpa using hb
    subst e
    exact I1.fpOk (Nat.le_refl _) (I1.hok.fresh (Nat.le_refl _))
  · subst e
    cases r1
    obtain ⟨its, rv, p, hz⟩ := I1.list hq
    refine wpAny_pyIter_list p.isList ?_
    refine ⟨s1.heap.objs.size, [s1.heap.objs.size], _, _, H1, rfl, I1.kept (t' := s1.toks) fun b o e => Heap.get?_push_of_some _ e, turn_list a _, ⟨_, Heap.get?_push_size _ rfl, rfl, rfl⟩, fun b hb => ?_, q⟩
    have e : b = s1.heap.objs.size := by simpa using hb
    subst e
    exact I1.fpOk (Nat.le_refl _) (I1.hok.fresh (Nat.le_refl _))
theorem si_val (he : SE X e te) : SI X false tg e (iVal te) := by
  intro ED H0 tk
  obtain ⟨ra, pa, ka⟩ := he ED H0 tk
  refine ⟨_, pi_seq pa, fun σ H τ S Q R r h k => ?_⟩
  refine ka σ H τ S _ _ r h fun v H' d S' m a' d' q => ?_
  cases d with
  | tup l =>
    cases d' with
    | tup h1 h2 => exact .inl ⟨_, rfl, ⟨_, h1.sq⟩, k _ H' _ S' m a' (srcOk_tup h1 h2) q⟩
  | fro l =>
    cases d' with
    | fro h1 h2 => exact .inr ⟨_, rfl, ⟨_, h1.sq⟩, k _ H' _ S' m a' (srcOk_fro h1 h2) q⟩
  | ref a =>
    cases d'
    unfold srcOf at q
    cases e : S' a with
    | none => simp only [e] at q
    | some o =>
      cases o with
      | lst l =>
        simp only [e] at q
        obtain ⟨vs, e1, r1⟩ := a' a _ e
        exact .inr ⟨_, rfl, ⟨_, SqL.of e1⟩, k _ H' _ S' m a' srcOk_lst q⟩
  | _ => exact q.elim
def srcRng (lo : Int) (n : Nat) : Src := fun i _ => some (if i < n then some (.int (lo + i)) else none)
theorem srcOk_rng {K : PySem.W.Frag} {H : Hp} {lo : Int} {n : Nat} : SrcOk K false H (Itr lo n) (srcRng lo n) where
  stop := fun i H' S m ab e => by
    unfold srcRng at e
    by_cases h : i < n
    · rw [if_pos h] at e; cases e
    · exact Nat.not_lt.mp h
  go := fun i H' S d m ab e => by
    unfold srcRng at e
    by_cases h : i < n
    · rw [if_pos h] at e
      cases e
      exact ⟨h, fun x H'' ⟨e1, e2⟩ => by subst e1; subst e2; exact ⟨HLe.rfl, ab, .int _⟩⟩
    · rw [if_neg h] at e; cases e
def okR (i : Int) : Prop := -(2 ^ 62) ≤ i ∧ i < 2 ^ 62
def iRng1 (te : DE) : DI := fun E τ S Q => te E τ S fun d S1 => match d with
  | .int j => okR j ∧ Q (srcRng 0 j.toNat) S1
  | _ => False
def iRng2 (ta tb : DE) : DI := fun E τ S Q => ta E τ S fun d S1 => tb E τ S1 fun d' S2 => match d, d' with
  | .int i, .int j => (okR i ∧ okR j) ∧ Q (srcRng i (j - i).toNat) S2
  | _, _ => False
theorem si_range1 (hg : Gl X "range") (hm : X.mg "range" = none) (ha : SE X e te) (hs : starEach [e] X.env = [(false, eval e X.env)]) : SI X false tg (.Call (.Name "range" p) [e] [] pos) (iRng1 te) := by
  intro ED H0 tk
  obtain ⟨ra, pa, ka⟩ := ha ED H0 tk
  refine ⟨_, pi_range1 hg hm (pa_cons pa pa_nil hs) hs, fun σ H τ S Q R r h k => ?_⟩
  refine ka σ H τ S _ _ r h fun v H' d S' m a' d' q => ?_
  cases d with
  | int j =>
    cases d'
    exact ⟨j, rfl, q.1.1, q.1.2, k _ H' _ S' m a' srcOk_rng q.2⟩
  | _ => exact q.elim
theorem si_range2 (hg : Gl X "range") (hm : X.mg "range" = none) (ha : SE X e ta) (hb : SE X e2 tb) (hs : starEach [e, e2] X.env = [(false, eval e X.env), (false, eval e2 X.env)]) (hs2 : starEach [e2] X.env = [(false, eval e2 X.env)]) : SI X false tg (.Call (.Name "range" p) [e, e2] [] pos) (iRng2 ta tb) := by
  intro ED H0 tk
  obtain ⟨ra, pa, ka⟩ := ha ED H0 tk
  obtain ⟨rb, pb, kb⟩ := hb ED H0 tk
  refine ⟨_, pi_range2 hg hm (pa_cons pa (pa_cons pb pa_nil hs2) (by rw [hs, hs2])) hs hs2, fun σ H τ S Q R r h k => ?_⟩
  refine two ka kb r h fun v u H' x y S' m a' d1 d2 q => ?_
  cases x with
  | int i =>
    cases y with
    | int j =>
      cases d1
      cases d2
      exact ⟨i, j, rfl, ⟨q.1.1.1, q.1.1.2, q.1.2.1, q.1.2.2⟩, k _ H' _ S' m a' srcOk_rng q.2⟩
    | _ => exact q.elim
  | _ => exact q.elim
/-- zip(x, y) -/
def srcZip (s1 s2 : Src) : Src := fun i S => match s1 i S, s2 i S with
  | some (some x), some (some y) => some (some (.tup [x, y]))
  | some none, some _ => some none
  | some _, some none => some none
  | _, _ => none
/-- two lists, or two tuples -/
def zipOf (x y : D) (S : SH) : Option Src := match x, y with
  | .tup l, .tup l' => some (srcZip (srcSeq l) (srcSeq l'))
  | .ref a, .ref b => (match S a, S b with
    | some (.lst _), some (.lst _) => some (srcZip (srcLst a) (srcLst b))
    | _, _ => none)
  | _, _ => none
def iZip2 (ta tb : DE) : DI := fun E τ S Q => ta E τ S fun x S1 => tb E τ S1 fun y S2 => match zipOf x y S2 with
  | some src => Q src S2
  | none => False
theorem srcOk_zipT {K : PySem.W.Frag} {H : Hp} {a b : Addr} {xs ys : List V} {l l' : List D} (h : TupAt K H a xs) (r : DtL K H l xs) (h' : TupAt K H b ys) (r' : DtL K H l' ys) : SrcOk K true H (RZ.ItzT K a b) (srcZip (srcSeq l) (srcSeq l')) where
  stop := fun i H' S m ab e => by
    refine ⟨xs, ys, (h.mono m).sq, (h'.mono m).sq, ?_⟩
    unfold srcZip srcSeq at e
    rw [← r.length, ← r'.length]
    cases q : l[i]? with
    | none => exact .inl (List.getElem?_eq_none_iff.mp q)
    | some d =>
      cases q' : l'[i]? with
      | none => exact .inr (List.getElem?_eq_none_iff.mp q')
      | some d' => rw [q, q'] at e; cases e
  go := fun i H' S d m ab e => by
    unfold srcZip srcSeq at e
    cases q : l[i]? with
    | none =>
      cases q' : l'[i]? with
      | none => rw [q, q'] at e; cases e
      | some d' => rw [q, q'] at e; cases e
    | some x =>
      cases q' : l'[i]? with
      | none => rw [q, q'] at e; cases e
      | some y =>
        rw [q, q'] at e
        cases e
        obtain ⟨v, h1, h2⟩ := r.get q
        obtain ⟨u, h3, h4⟩ := r'.get q'
        refine ⟨⟨xs, ys, v, u, (h.mono m).sq, (h'.mono m).sq, h1, h3⟩, fun z H'' ⟨T, w1, w2, e1, e2, e3, e4, e5⟩ => ?_⟩
        have q1 := e4 xs (h.mono m).sq
        rw [h1] at q1
        cases q1
        have q2 := e5 ys (h'.mono m).sq
        rw [h3] at q2
        cases q2
        subst e3
        have mm : HLe H' (upd H' T (.tup [v, u])) := HLe.new e2
        exact ⟨mm, ab.hid e2, T, v, u, x, y, e1, upd_same, rfl, (h2.mono m).mono mm, (h4.mono m).mono mm⟩
theorem srcOk_zipL {K : PySem.W.Frag} {H : Hp} {a b : Addr} : SrcOk K true H (Itz K a b) (srcZip (srcLst a) (srcLst b)) where
  stop := fun i H' S m ab e => by
    unfold srcZip srcLst at e
    cases q : S a with
    | none => rw [q] at e; cases e
    | some o =>
      cases o with
      | lst l =>
        cases q' : S b with
        | none => rw [q, q'] at e; dsimp only at e; revert e; cases l[i]? <;> exact fun e => nomatch e
        | some o' =>
          cases o' with
          | lst l' =>
            obtain ⟨vs, e1, r⟩ := ab a _ q
            obtain ⟨us, e2, r'⟩ := ab b _ q'
            refine ⟨vs, us, SqL.of e1, SqL.of e2, ?_⟩
            rw [← r.length, ← r'.length]
            rw [q, q'] at e
            dsimp only at e
            cases z : l[i]? with
            | none => exact .inl (List.getElem?_eq_none_iff.mp z)
            | some d =>
              cases z' : l'[i]? with
              | none => exact .inr (List.getElem?_eq_none_iff.mp z')
              | some d' => rw [z, z'] at e; cases e
  go := fun i H' S d m ab e => by
    unfold srcZip srcLst at e
    cases q : S a with
    | none => rw [q] at e; cases e
    | some o =>
      cases o with
      | lst l =>
        cases q' : S b with
        | none => rw [q, q'] at e; dsimp only at e; revert e; cases l[i]? <;> exact fun e => nomatch e
        | some o' =>
          cases o' with
          | lst l' =>
            obtain ⟨vs, e1, r⟩ := ab a _ q
            obtain ⟨us, e2, r'⟩ := ab b _ q'
            rw [q, q'] at e
            dsimp only at e
            cases z : l[i]? with
            | none =>
              cases z' : l'[i]? with
              | none => rw [z, z'] at e; cases e
              | some y => rw [z, z'] at e; cases e
            | some x =>
              cases z' : l'[i]? with
              | none => rw [z, z'] at e; cases e
              | some y =>
                rw [z, z'] at e
                cases e
                obtain ⟨v, h1, h2⟩ := r.get z
                obtain ⟨u, h3, h4⟩ := r'.get z'
                refine ⟨⟨vs, us, v, u, SqL.of e1, SqL.of e2, h1, h3⟩, fun zz H'' ⟨T, w1, w2, f1, f2, f3, f4, f5⟩ => ?_⟩
                have q1 := f4 vs (SqL.of e1)
                rw [h1] at q1
                cases q1
                have q2 := f5 us (SqL.of e2)
                rw [h3] at q2
                cases q2
                subst f3
                have mm : HLe H' (upd H' T (.tup [v, u])) := HLe.new f2
                exact ⟨mm, ab.hid f2, T, v, u, x, y, f1, upd_same, rfl, h2.mono mm, h4.mono mm⟩
theorem si_zip {elts : List Expr} {kk : Nat} {tpos : Pos} (hg : Gl X "zip") (hm : X.mg "zip" = none) (ha : SE X e ta) (hb : SE X e2 tb)
    (hs : starEach [e, e2] X.env = (false, eval e X.env) :: starEach [e2] X.env) (hs2 : starEach [e2] X.env = [(false, eval e2 X.env)]) (hpl : (backTo pos (starEach [e2] X.env)).any (·.1) = false) : SI X true (.Tuple elts kk tpos) (.Call (.Name "zip" p) [e, e2] [] pos) (iZip2 ta tb) := by
  intro ED H0 tk
  obtain ⟨ra, pa, ka⟩ := ha ED H0 tk
  obtain ⟨rb, pb, kb⟩ := hb ED H0 tk
  refine ⟨_, RZ.pi_zipA hg hm (pa_cons pa (pa_cons pb pa_nil hs2) hs) hs hpl, fun σ H τ S Q R r h k => ?_⟩
  refine two ka kb r h fun v u H' x y S' m a' d1 d2 q => ?_
  cases x with
  | tup l =>
    cases y with
    | tup l' =>
      cases d1 with
      | tup h1 h2 =>
        cases d2 with
        | tup h3 h4 => exact ⟨_, _, _, _, rfl, .inr ⟨h1.sq, h3.sq, k _ H' _ S' m a' (srcOk_zipT h1 h2 h3 h4) q⟩⟩
    | _ => exact q.elim
  | ref a =>
    cases y with
    | ref b =>
      cases d1
      cases d2
      unfold zipOf at q
      cases e : S' a with
      | none => simp only [e] at q
      | some o =>
        cases o with
        | lst l =>
          cases e2 : S' b with
          | none => simp only [e, e2] at q
          | some o2 =>
            cases o2 with
            | lst l2 =>
              simp only [e, e2] at q
              obtain ⟨vs, f1, r1⟩ := a' a _ e
              obtain ⟨us, f2, r2⟩ := a' b _ e2
              exact ⟨_, _, _, _, rfl, .inl ⟨SqL.of f1, SqL.of f2, k _ H' _ S' m a' srcOk_zipL q⟩⟩
    | _ => exact q.elim
  | _ => exact q.elim

/-! ### for -/
def dForN (src : Src) (g : DG) (s1 : DS) : Nat → Nat → DS
  | 0, _ => fun _ _ _ _ => False
  | n + 1, i => fun E DD τ S => match src i S with
    | none => False
    | some none => DD.nx τ S
    | some (some d) => g d E τ S fun τ1 S1 => s1 E { DD with nx := fun τ' S' => wk (dForN src g s1 n (i + 1) E DD τ') S', ct := fun τ' S' => wk (dForN src g s1 n (i + 1) E DD τ') S', bk := DD.nx } τ1 S1
def dFor (si : DI) (g : DG) (s1 : DS) : DS := fun E DD τ S => si E τ S fun src S1 => ∃ n, dForN src g s1 n 0 E DD τ S1
theorem ss_for {body : List Stmt} {pr : Bool} {si : DI} {g : DG} (hc : X.calm = true) (hi : SI X pr tg iter si) (hg : SGy X pr tg g) (hb : SSs X body s1) (hs : ∀ x, foldedSetIterable iter X.env x = pure x) : SS X (.For tg iter body [] pos) (dFor si g s1) := by
  intro po ED H0 tk
  obtain ⟨ri, pi, ki⟩ := hi ED H0 tk
  obtain ⟨rg, pg, kg⟩ := hg ED H0 tk
  obtain ⟨ra, pa, ka⟩ := hb po ED H0 tk
  refine ⟨_, ps_for po hc pi pg pa hs, fun σ H τ S DD D' r h k => ?_⟩
  refine ki σ H τ S _ _ r h fun J H1 src S1 m1 a1 ok ⟨n0, q⟩ => ?_
  refine ⟨fun i n σ' H' => HLe H1 H' ∧ ∃ τ' S', Rl X.K H0 H' σ' τ' S' ∧ dForN src g s1 n i ED DD τ' S', ⟨n0, HLe.rfl, τ, S1, r.mono m1 a1, q⟩, ?_⟩
  rintro i n σ2 H2 ⟨m2, τ2, S2, r2, h2⟩
  cases n with
  | zero => exact h2.elim
  | succ n =>
    unfold dForN at h2
    split at h2
    · exact h2.elim
    · rename_i e
      exact .inl ⟨ok.stop i H2 S2 m2 r2.ab e, k.nx σ2 H2 τ2 S2 (m1.trans m2) r2 h2⟩
    · rename_i d e
      obtain ⟨g1, g2⟩ := ok.go i H2 S2 d m2 r2.ab e
      refine .inr ⟨g1, fun σ' H' => HLe H1 H' ∧ ∃ τ' S', Rl X.K H0 H' σ' τ' S' ∧ dForN src g s1 n (i + 1) ED DD τ' S', fun σ' H' w => ⟨n, Nat.lt_succ_self n, w⟩, fun x H3 y => ?_⟩
      obtain ⟨m3, a3, y3⟩ := g2 x H3 y
      refine kg d x σ2 H3 τ2 S2 _ _ (r2.mono m3 a3) y3 h2 fun σ4 H4 τ4 S4 m4 r4 q4 => ?_
      have mm : HLe H1 H4 := (m2.trans m3).trans m4
      exact ka σ4 H4 τ4 S4 _ _ r4 q4 ⟨fun σ' H' τ' S' m' r' ⟨S'', l, q'⟩ => ⟨mm.trans m', τ', S'', r'.less l, q'⟩, fun v H' d S' m' => k.rt v H' d S' ((m1.trans mm).trans m'),
        fun σ' H' τ' S' m' => k.nx σ' H' τ' S' ((m1.trans mm).trans m'), fun σ' H' τ' S' m' r' ⟨S'', l, q'⟩ => ⟨mm.trans m', τ', S'', r'.less l, q'⟩⟩

/-! ### comprehensions -/
def wipeD (τ : SDl) : List Nat → SDl
  | [] => τ
  | v :: vs => (wipeD τ vs).set v none
theorem Rl.wipe {K : PySem.W.Frag} {H0 H : Hp} {σ : L2.St} {τ : SDl} {S : SH} (r : Rl K H0 H σ τ S) : ∀ vs : List Nat, Rl K H0 H (L2.wipe σ vs) (wipeD τ vs) S
  | [] => r
  | v :: vs => by
    have ih := r.wipe vs
    refine ⟨ih.le, ?_, fun j e q => ?_, ih.ab⟩
    · show ((wipeD τ vs).set v none).length = ((L2.wipe σ vs).set v none).length
      rw [List.length_set, List.length_set]; exact ih.len
    · have q : ((wipeD τ vs).set v none)[j]? = some (some e) := q
      show ∃ x, ((L2.wipe σ vs).set v none)[j]? = some (some x) ∧ _
      by_cases z : v = j
      · subst z
        by_cases lt : v < (wipeD τ vs).length
        · rw [List.getElem?_set_self lt] at q; cases q
        · rw [List.getElem?_eq_none (by simpa using lt)] at q; cases q
      · rw [List.getElem?_set_ne z] at q ⊢
        exact ih.sl j e q
/-- targets that store nothing but the places vs -/
def SGw (X : Cx) (p : Bool) (vs : List Nat) (tg : Expr) (g : DG) : Prop := ∀ H0, ∃ gg : TG, PG X tg gg ∧
  ∀ (d : D) (v : V) (σ : L2.St) (H : Hp) (τ : SDl) (S : SH) (Q : SDl → SH → Prop) (R : L2.St → Hp → Prop), Rl X.K H0 H σ τ S → YR X.K p H d v → g d ek0 τ S Q →
    (∀ σ' H' τ' S', HLe H H' → L2.wipe σ' vs = L2.wipe σ vs → Rl X.K H0 H' σ' τ' S' → Q τ' S' → R σ' H') → gg v σ H R
def SGws (X : Cx) (vs : List Nat) (tgs : List Expr) (g : DGs) : Prop := ∀ H0, ∃ gg : TGs, PGs X tgs gg ∧
  ∀ (ds : List D) (us : List V) (σ : L2.St) (H : Hp) (τ : SDl) (S : SH) (Q : SDl → SH → Prop) (R : L2.St → Hp → Prop), Rl X.K H0 H σ τ S → DtL X.K H ds us → g ds ek0 τ S Q →
    (∀ σ' H' τ' S', HLe H H' → L2.wipe σ' vs = L2.wipe σ vs → Rl X.K H0 H' σ' τ' S' → Q τ' S' → R σ' H') → gg us σ H R
theorem wipe_set {σ : L2.St} {i : Nat} {x : Option V} : ∀ {vs : List Nat}, i ∈ vs → L2.wipe (σ.set i x) vs = L2.wipe σ vs
  | [], h => by cases h
  | v :: vs, h => by
    show (L2.wipe (σ.set i x) vs).set v none = (L2.wipe σ vs).set v none
    by_cases hi : i ∈ vs
    · rw [wipe_set hi]
    · have e : i = v := by
        rcases List.mem_cons.mp h with e | e
        · exact e
        · exact absurd e hi
      subst e
      have : ∀ (us : List Nat), i ∉ us → L2.wipe (σ.set i x) us = (L2.wipe σ us).set i x := fun us => by
        induction us with
        | nil => intro _; rfl
        | cons u us ih =>
          intro hu
          show (L2.wipe (σ.set i x) us).set u none = ((L2.wipe σ us).set u none).set i x
          rw [ih fun z => hu (List.mem_cons_of_mem _ z), List.set_comm]
          intro z; subst z; exact hu List.mem_cons_self
      rw [this vs hi, List.set_set]
theorem sgw_name {vs : List Nat} {i : Nat} {x : Str} (hN : X.N.Nodup) (hi : X.N[i]? = some x) (hx : Loc X.env.scope x) (hf : X.fn x = true ∨ X.env.scope.names.lookup x = some .local) (hv : i ∈ vs) : SGw X false vs (.Name x pos) (kName i) :=
  fun _ => ⟨_, pg_name hN hi hx hf, fun d v σ H τ S Q R r dv h k => k _ H _ S HLe.rfl (wipe_set hv) (r.set dv) h⟩
theorem sgws_nil {vs : List Nat} : SGws X vs [] kNil := fun _ => ⟨_, pgs_nil, fun ds us σ H τ S Q R r dv h k => by
  cases dv with
  | nil => exact ⟨rfl, k σ H τ S HLe.rfl rfl r h⟩
  | cons _ _ => exact h.elim⟩
theorem sgws_cons {vs : List Nat} {tgs : List Expr} {g : DG} {gs : DGs} (h1 : SGw X false vs tg g) (h2 : SGws X vs tgs gs) (hs : (assignEach (tg :: tgs) X.env).map (·.2) = assign tg X.env :: (assignEach tgs X.env).map (·.2)) : SGws X vs (tg :: tgs) (kCons g gs) := by
  intro H0
  obtain ⟨ra, pa, ka⟩ := h1 H0
  obtain ⟨rb, pb, kb⟩ := h2 H0
  refine ⟨_, pgs_cons pa pb hs, fun ds us σ H τ S Q R r dv h k => ?_⟩
  cases dv with
  | nil => exact h.elim
  | cons d1 d2 =>
    refine ⟨_, _, rfl, ka _ _ σ H τ S _ _ r d1 h fun σ' H' τ' S' m w' r' q => ?_⟩
    exact kb _ _ σ' H' τ' S' Q R r' (d2.mono m) q fun σ2 H2 τ2 S2 m2 w2 => k σ2 H2 τ2 S2 (m.trans m2) (w2.trans w')
theorem sgw_tup {vs : List Nat} {tgs : List Expr} {k : Nat} {gs : DGs} {n : Nat} (hc : X.calm = true) (h : SGws X vs tgs gs) (hn : (assignEach tgs X.env).length = n) (hst : (assignEach tgs X.env).findIdx? (·.1) = none) : SGw X false vs (.Tuple tgs k pos) (kTup n gs) := by
  intro H0
  obtain ⟨ra, pa, ka⟩ := h H0
  refine ⟨fun v σ H Q => gTup X.K n ra v σ H Q ∨ gLst X.K n ra v σ H Q, ⟨fun pins s σ H v u Q I r hw => ?_⟩, fun d v σ H τ S Q R r dv hh kk => ?_⟩
  · rcases hw with hw | hw
    · exact (pg_tup hc pa hn hst).run pins s σ H v u Q I r hw
    · exact (pg_lst hc pa hn hst).run pins s σ H v u Q I r hw
  · unfold kTup itemsOf at hh
    have dv : Dt X.K H d v := dv
    cases d with
    | tup l =>
      cases dv with
      | tup at' dl => exact .inl ⟨_, _, rfl, at'.sq, by rw [← dl.length]; exact hh.1, ka _ _ σ H τ S Q R r dl hh.2 kk⟩
    | fro l =>
      cases dv with
      | fro at' dl => exact .inr ⟨_, _, rfl, at'.sq, by rw [← dl.length]; exact hh.1, ka _ _ σ H τ S Q R r dl hh.2 kk⟩
    | ref a =>
      cases dv
      cases q : S a with
      | none => simp only [q] at hh
      | some o =>
        cases o with
        | lst l =>
          simp only [q] at hh
          obtain ⟨vs, e1, dl⟩ := r.ab a _ q
          exact .inr ⟨_, _, rfl, SqL.of e1, by rw [← dl.length]; exact hh.1, ka _ _ σ H τ S Q R r dl hh.2 kk⟩
    | _ => exact hh.elim
theorem sgw_pair {vs : List Nat} {tgs : List Expr} {k : Nat} {gs : DGs} (hc : X.calm = true) (h : SGws X vs tgs gs) (hn : (assignEach tgs X.env).length = 2) (hst : (assignEach tgs X.env).findIdx? (·.1) = none) : SGw X true vs (.Tuple tgs k pos) (kTup 2 gs) := by
  intro H0
  obtain ⟨ra, pa, ka⟩ := h H0
  refine ⟨_, pg_tup hc pa hn hst, fun d v σ H τ S Q R r dv hh kk => ?_⟩
  obtain ⟨T, v1, v2, d1, d2, rfl, hT, rfl, x1, x2⟩ := dv
  exact ⟨T, _, rfl, SqT.of hT, rfl, ka _ _ σ H τ S Q R r (.cons x1 (.cons x2 .nil)) hh.2 kk⟩
theorem wipe_at {σ : L2.St} {i : Nat} : ∀ vs : List Nat, (L2.wipe σ vs)[i]? = if i ∈ vs then (σ[i]?).map (fun _ => none) else σ[i]?
  | [] => by simp [L2.wipe]
  | v :: vs => by
    show ((L2.wipe σ vs).set v none)[i]? = _
    rw [List.getElem?_set, L2.wipe_length, wipe_at vs]
    by_cases h : v = i
    · subst h
      by_cases lt : v < σ.length
      · simp [lt]
      · simp [lt]
    · have h' : ¬ i = v := fun e => h e.symm
      simp [h, h']
theorem wipe_wipe (σ : L2.St) (vs : List Nat) : L2.wipe (L2.wipe σ vs) vs = L2.wipe σ vs := by
  apply List.ext_getElem?
  intro i
  rw [wipe_at, wipe_at]
  split
  · rw [Option.map_map]; rfl
  · rfl
/-- a clause's tests -/
def STs (X : Cx) (ifs : List Expr) (t : DT) : Prop := ∀ ED H0, Takes X (liftE X.K H0 ED) → ∃ tt : TT, PTs X ifs tt ∧
  ∀ (σ : L2.St) (H : Hp) (τ : SDl) (S : SH) (Q : Bool → SH → Prop) (R : Bool → Hp → Prop), Rl X.K H0 H σ τ S → t ED τ S Q →
    (∀ b H' S', HLe H H' → Abs X.K H' S' → Q b S' → R b H') → tt σ H R
def dYes : DT := fun _ _ S Q => Q true S
theorem sts_nil : STs X [] dYes := fun _ _ _ => ⟨_, pts_nil, fun σ H τ S Q R r h k => k true H S HLe.rfl r.ab h⟩
theorem sts_one (h : ST X c t) : STs X [c] t := fun ED H0 tk => let ⟨r, p, k⟩ := h ED H0 tk; ⟨r, pts_one p, k⟩
/-- the turns: p the new list -/
def dCompN (src : Src) (g : DG) (t : DT) (te : DE) (p : Addr) (τ0 : SDl) (Q : QE) : Nat → Nat → SH → Prop
  | 0, _ => fun _ => False
  | n + 1, i => fun S => match src i S with
    | none => False
    | some none => Q (.ref p) S
    | some (some d) => g d ek0 τ0 S fun τ1 S1 => t ek0 τ1 S1 fun b S2 => if b = true then te ek0 τ1 S2 fun y S3 => match S3 p with
        | some (.lst acc) => acc.length < sizeLine ∧ wk (dCompN src g t te p τ0 Q n (i + 1)) (sup S3 p (.lst (acc ++ [y])))
        | _ => False
      else wk (dCompN src g t te p τ0 Q n (i + 1)) S2
def dComp (si : DI) (g : DG) (t : DT) (te : DE) (vs : List Nat) : DE := fun E τ S Q => si E τ S fun src S1 => ∀ p, S1 p = none → ∃ n, dCompN src g t te p (wipeD τ vs) Q n 0 (sup S1 p (.lst []))
theorem takes_no {X : Cx} {K : PySem.W.Frag} {H0 : Hp} : Takes X (liftE K H0 ek0) := takes0.imp fun _ _ _ _ ⟨_, _, _, _, _, z⟩ => z.elim
section
variable {elt : Expr} {ifs : List Expr} {scope : Scope} {own : List (Str × Nat)} {pr : Bool} {si : DI} {g : DG}
/-- the reading of the block -/
theorem comp_core {wi : TI} {gg : TG} {tt : TT} {rt : TE} {vs : List Nat} {ED : EK} {H0 : Hp}
    (ki : ∀ (σ : L2.St) (H : Hp) (τ : SDl) (S : SH) (Q : Src → SH → Prop) (R : It → Hp → Prop), Rl X.K H0 H σ τ S → si ED τ S Q →
      (∀ J H' src S', HLe H H' → Abs X.K H' S' → SrcOk X.K pr H' J src → Q src S' → R J H') → wi σ H R)
    (kg : ∀ (d : D) (v : V) (σ : L2.St) (H : Hp) (τ : SDl) (S : SH) (Q : SDl → SH → Prop) (R : L2.St → Hp → Prop), Rl X.K H0 H σ τ S → YR X.K pr H d v → g d ek0 τ S Q →
      (∀ σ' H' τ' S', HLe H H' → L2.wipe σ' vs = L2.wipe σ vs → Rl X.K H0 H' σ' τ' S' → Q τ' S' → R σ' H') → gg v σ H R)
    (kt : ∀ (σ : L2.St) (H : Hp) (τ : SDl) (S : SH) (Q : Bool → SH → Prop) (R : Bool → Hp → Prop), Rl X.K H0 H σ τ S → t ek0 τ S Q →
      (∀ b H' S', HLe H H' → Abs X.K H' S' → Q b S' → R b H') → tt σ H R)
    (ke : ∀ (σ : L2.St) (H : Hp) (τ : SDl) (S : SH) (Q : QE) (R : VK), Rl X.K H0 H σ τ S → te ek0 τ S Q →
      (∀ v H' d S', HLe H H' → Abs X.K H' S' → Dt X.K H' d v → Q d S' → R v H') → rt σ H R)
    {σ : L2.St} {H : Hp} {τ : SDl} {S : SH} {Q : QE} {R : VK} (r : Rl X.K H0 H σ τ S) (h : dComp si g t te vs ED τ S Q)
    (k : ∀ v H' d S', HLe H H' → Abs X.K H' S' → Dt X.K H' d v → Q d S' → R v H') : tLc wi gg tt rt vs σ H R := by
  refine ki σ H τ S _ _ r h fun J H1 src S1 m1 a1 ok q p hp => ?_
  obtain ⟨n0, q⟩ := q p (a1.free hp)
  have r1 := (r.mono m1 a1).wipe vs
  refine ⟨fun i n H' => HLe H1 H' ∧ ∃ S', Abs X.K H' S' ∧ dCompN src g t te p (wipeD τ vs) Q n i S', ⟨n0, HLe.new hp, _, a1.new hp ⟨[], upd_same, .nil⟩, q⟩, ?_⟩
  rintro i n H2 ⟨m2, S2, a2, h2⟩
  cases n with
  | zero => exact h2.elim
  | succ n =>
    unfold dCompN at h2
    split at h2
    · exact h2.elim
    · rename_i e
      exact .inl ⟨ok.stop i H2 S2 m2 a2 e, k _ H2 _ S2 (m1.trans m2) a2 (.ref p) h2⟩
    · rename_i d e
      obtain ⟨g1, g2⟩ := ok.go i H2 S2 d m2 a2 e
      refine .inr ⟨g1, fun H' => HLe H1 H' ∧ ∃ S', Abs X.K H' S' ∧ dCompN src g t te p (wipeD τ vs) Q n (i + 1) S', fun H' w => ⟨n, Nat.lt_succ_self n, w⟩, fun x H3 y => ?_⟩
      obtain ⟨m3, a3, y3⟩ := g2 x H3 y
      refine kg d x _ H3 _ S2 _ _ (r1.mono (m2.trans m3) a3) y3 h2 fun σ4 H4 τ4 S4 m4 w4 r4 q4 => ⟨?_, ?_⟩
      · rw [w4, wipe_wipe]
      · have mm : HLe H1 H4 := (m2.trans m3).trans m4
        refine kt σ4 H4 τ4 S4 _ _ r4 q4 fun b H5 S5 m5 a5 q5 => ?_
        cases b with
        | false =>
          rw [if_neg Bool.false_ne_true] at q5 ⊢
          obtain ⟨S'', l, q'⟩ := q5
          exact ⟨mm.trans m5, S'', a5.le l, q'⟩
        | true =>
          rw [if_pos rfl] at q5 ⊢
          refine ke σ4 H5 τ4 S5 _ _ (r4.mono m5 a5) q5 fun v H6 d6 S6 m6 a6 x6 q6 => ?_
          split at q6
          · rename_i acc e6
            obtain ⟨us, e7, r7⟩ := a6 p _ e6
            obtain ⟨z6, S'', l, q'⟩ := q6
            have mu : HLe H6 (upd H6 p (.lst (us ++ [v]))) := HLe.put e7 fun _ _ _ z => by cases z
            refine ⟨us, e7, by rw [← r7.length]; exact z6, ((mm.trans m5).trans m6).trans mu, S'', ?_, q'⟩
            exact (a6.put mu ⟨_, upd_same, (r7.append (.cons x6 .nil)).mono mu⟩).le l
          · exact q6.elim
theorem se_lc (hc : X.calm = true) (hN : X.N.Nodup) (hi : SI X pr tg iter si) (ok : BlkOk X.N X.env.scope scope own)
    (hg : ∀ (s : Shared) (H : Hp) (C : Addr) (cl : List (Str × Addr)) (fp : List Addr), SGw (X.blk s H scope (compEnvC scope cl C X.env) fp) pr (own.map (·.2)) tg g)
    (ht : ∀ (s : Shared) (H : Hp) (C : Addr) (cl : List (Str × Addr)) (fp : List Addr), STs (X.blk s H scope (compEnvC scope cl C X.env) fp) ifs t)
    (he : ∀ (s : Shared) (H : Hp) (C : Addr) (cl : List (Str × Addr)) (fp : List Addr), SE (X.blk s H scope (compEnvC scope cl C X.env) fp) elt te) (hs : ∀ x, foldedSetIterable iter X.env x = pure x) :
    SE X (.ListComp elt [⟨tg, iter, ifs, 0⟩] scope pos) (dComp si g t te (own.map (·.2))) := by
  intro ED H0 tk
  obtain ⟨ri, pi, ki⟩ := hi ED H0 tk
  have G := fun s H C cl fp => hg s H C cl fp H0
  have T := fun s H C cl fp => ht s H C cl fp ek0 H0 takes_no
  have E := fun s H C cl fp => he s H C cl fp ek0 H0 takes_no
  refine ⟨_, pe_lc (g := fun v σ H R => ∀ s H' C cl fp, (G s H' C cl fp).choose v σ H R) (tt := fun σ H R => ∀ s H' C cl fp, (T s H' C cl fp).choose σ H R) (te := fun σ H R => ∀ s H' C cl fp, (E s H' C cl fp).choose σ H R) hc hN pi ok
    (fun s H C cl fp => ⟨fun pins s' σ H' v u Q I r h => (G s H C cl fp).choose_spec.1.run pins s' σ H' v u Q I r (h s H C cl fp)⟩)
    (fun s H C cl fp => ⟨fun pins s' σ H' Q I h => (T s H C cl fp).choose_spec.1.run pins s' σ H' Q I (h s H C cl fp)⟩)
    (fun s H C cl fp => ⟨fun pins s' σ H' Q I h => (E s H C cl fp).choose_spec.1.run pins s' σ H' Q I (h s H C cl fp)⟩) hs, fun σ H τ S Q R r h k => ?_⟩
  exact comp_core ki (fun d v σ H τ S Q R r y h k s H' C cl fp => (G s H' C cl fp).choose_spec.2 d v σ H τ S Q R r y h k)
    (fun σ H τ S Q R r h k s H' C cl fp => (T s H' C cl fp).choose_spec.2 σ H τ S Q R r h k) (fun σ H τ S Q R r h k s H' C cl fp => (E s H' C cl fp).choose_spec.2 σ H τ S Q R r h k) r h k
/-- y = [..] on one line, y a local that the block doesn't know -/
theorem ss_setLc {i : Nat} {y : Str} {py spos : Pos} (hc : X.calm = true) (hN : X.N.Nodup) (hy : X.N[i]? = some y) (hyl : X.env.scope.names.lookup y = some .local)
    (hsw : swapsWith (.ListComp elt [⟨tg, iter, ifs, 0⟩] scope pos) (some (.Name y py)) spos.line X.env = pure true) (hi : SI X pr tg iter si) (ok : BlkOk X.N X.env.scope scope own)
    (hg : ∀ (s : Shared) (H : Hp) (C : Addr) (cl : List (Str × Addr)) (fp : List Addr), SGw (X.blk s H scope (compEnvC scope cl C X.env) fp) pr (own.map (·.2)) tg g)
    (ht : ∀ (s : Shared) (H : Hp) (C : Addr) (cl : List (Str × Addr)) (fp : List Addr), STs (X.blk s H scope (compEnvC scope cl C X.env) fp) ifs t)
    (he : ∀ (s : Shared) (H : Hp) (C : Addr) (cl : List (Str × Addr)) (fp : List Addr), SE (X.blk s H scope (compEnvC scope cl C X.env) fp) elt te) (hs : ∀ x, foldedSetIterable iter X.env x = pure x) :
    SS X (.Assign [.Name y py] (.ListComp elt [⟨tg, iter, ifs, 0⟩] scope pos) spos) (dAsg (dComp si g t te (own.map (·.2))) (kName i)) := by
  intro _ ED H0 tk
  obtain ⟨ri, pi, ki⟩ := hi ED H0 tk
  have G := fun s H C cl fp => hg s H C cl fp H0
  have T := fun s H C cl fp => ht s H C cl fp ek0 H0 takes_no
  have E := fun s H C cl fp => he s H C cl fp ek0 H0 takes_no
  refine ⟨_, ps_setLc (g := fun v σ H R => ∀ s H' C cl fp, (G s H' C cl fp).choose v σ H R) (tt := fun σ H R => ∀ s H' C cl fp, (T s H' C cl fp).choose σ H R) (te := fun σ H R => ∀ s H' C cl fp, (E s H' C cl fp).choose σ H R) hc hN hy hyl hsw pi ok
    (fun s H C cl fp => ⟨fun pins s' σ H' v u Q I r h => (G s H C cl fp).choose_spec.1.run pins s' σ H' v u Q I r (h s H C cl fp)⟩)
    (fun s H C cl fp => ⟨fun pins s' σ H' Q I h => (T s H C cl fp).choose_spec.1.run pins s' σ H' Q I (h s H C cl fp)⟩)
    (fun s H C cl fp => ⟨fun pins s' σ H' Q I h => (E s H C cl fp).choose_spec.1.run pins s' σ H' Q I (h s H C cl fp)⟩) hs, fun σ H τ S DD D' r h k => ?_⟩
  exact comp_core ki (fun d v σ H τ S Q R r y h k s H' C cl fp => (G s H' C cl fp).choose_spec.2 d v σ H τ S Q R r y h k)
    (fun σ H τ S Q R r h k s H' C cl fp => (T s H' C cl fp).choose_spec.2 σ H τ S Q R r h k) (fun σ H τ S Q R r h k s H' C cl fp => (E s H' C cl fp).choose_spec.2 σ H τ S Q R r h k) r h
    fun v H' d S' m a' d' q => k.nx _ H' _ S' m ((r.mono m a').set d') q
end
end
end DL

set_option Elab.async false
set_option linter.all false
set_option maxRecDepth 100000
set_option maxHeartbeats 1000000
namespace DL
open PySem PySem.Spec PyProof.Rows L2

/-! ### what a def promises, on the level of data -/
abbrev XKD := Value → List (Str × D) → SH → Prop
abbrev DSp := List D → SH → QE → XKD → Prop
def xk0 : XKD := fun _ _ _ => False
def lift (K : PySem.W.Frag) (sp : DSp) : Sp := fun vs H Q E => ∃ ds S QD ED, Abs K H S ∧ DtL K H ds vs ∧ sp ds S QD ED ∧
  (∀ v H' d S', HLe H H' → Abs K H' S' → Dt K H' d v → QD d S' → Q v H') ∧ (∀ cls dd H' fs S', HLe H H' → Abs K H' S' → XdR K H' dd fs → ED cls fs S' → E cls dd H')
/-- the module's name x is a def that keeps sp -/
structure FnHas (X : Cx) (k : Nat) (x : Str) (sp : DSp) : Prop where
  ex : ∃ (f : Addr) (fd : FuncData) (ps : List Str), FnOk X.prog X.w X.K X.mg X.base (L2.CX X.prog X.w) k f fd ps (lift X.K sp) ∧ X.mg x = some (.ref f) ∧ PySem.W.keepIn X.K (.ref f) = true ∧ Binds X.K fd ps []
section
variable {X : Cx} {a b c e e2 : Expr} {es : List Expr} {ta tb tc te : DE} {t u : DT} {ts : DA} {pos p : Pos} {st : Stmt} {rest : List Stmt} {s1 s2 : DS} {x : Str} {k : Nat} {sp : DSp}
def dCall (sp : DSp) (ts : DA) : DE := fun E τ S Q => ts E τ S fun ds S1 => sp ds S1 Q fun cls fs S' => E cls fs τ S'
theorem lift_of {K : PySem.W.Frag} {H0 H1 : Hp} {σ : L2.St} {τ : SDl} {S1 : SH} {ED : EK} {ds : List D} {vs : List V} {Q : QE} {R : VK} (r : Rl K H0 H1 σ τ S1) (d : DtL K H1 ds vs)
    (q : sp ds S1 Q fun cls fs S' => ED cls fs τ S') (kk : Cont K H1 Q R) : lift K sp vs H1 R (WE (liftE K H0 ED) σ) :=
  ⟨ds, S1, Q, _, r.ab, d, q, kk, fun cls dd H' fs S' m a' f z => ⟨τ, S', fs, r.mono m a', f, z⟩⟩
theorem se_call (F : FnHas X k x sp) (hr : Room k X.A) (hg : Gl X x) (ha : SA X (e :: es) ts) (hdb : (x == ("__debug__" : Str)) = false)
    (he : starEach (e :: es) X.env = (false, eval e X.env) :: starEach es X.env) (hpl : (backTo pos (starEach es X.env)).any (·.1) = false) : SE X (.Call (.Name x p) (e :: es) [] pos) (dCall sp ts) := by
  intro ED H0 tk
  obtain ⟨ra, pa, ka⟩ := ha ED H0 tk
  obtain ⟨f, fd, ps, F, hm, hk, hb⟩ := F.ex
  refine ⟨_, pe_callS F hr hg hm hk hb (fun σ => passAt tk σ) pa hdb he hpl, fun σ H τ S Q R r h kk => ?_⟩
  refine ka σ H τ S _ _ r h fun vs H1 ds S1 m a1 d1 q => ?_
  exact lift_of (r.mono m a1) d1 q fun v' H'' d S'' m' => kk v' H'' d S'' (m.trans m')
theorem se_call0 (F : FnHas X k x sp) (hr : Room k X.A) (hg : Gl X x) (hdb : (x == ("__debug__" : Str)) = false) : SE X (.Call (.Name x p) [] [] pos) (dCall sp dNil) := by
  intro ED H0 tk
  obtain ⟨f, fd, ps, F, hm, hk, hb⟩ := F.ex
  refine ⟨fun σ H R => lift X.K sp [] H R (WE (liftE X.K H0 ED) σ), ⟨fun pins s σ H Q I h => ?_⟩, fun σ H τ S Q R r h kk => lift_of r .nil h kk⟩
  refine wpAny_Call_Name_kw (ld_glob I hg hm ?_ hdb)
  exact PySem.W.callWith_K0 I.kIn hk (run_fnS (us := []) F hr hb (passAt tk σ) I .nil h)

/-! ### raise -/
theorem pmk_own0 {C : Addr} {bmB : List Value} {B newId initId : String} (F : ExcBaseFacts B newId initId bmB) (q : PySem.W.excIn X.K C bmB newId = true) (gC : X.mg x = some (.ref C))
    (kC : PySem.W.keepIn X.K (.ref C) = true) (r : Raises X (.ref C)) (hg : Gl X x) (hdb : (x == ("__debug__" : Str)) = false) :
    PMk X (.Call (.Name x p) [] [] pos) (fun _ H Q => Q (.ref C) none H) := by
  intro pins s σ H Q I h
  refine wpAny_Call_Name_kw (ld_glob I hg gC ?_ hdb)
  refine PySem.W.callWith_K0 I.kIn kC ?_
  show wpAny _ _ (call (.ref C) []) _ _ _
  obtain ⟨bm, N, nm, qn, bs, hdct, sn, sub, ab, col, dd, k0, k1, k2, k3, k5, mN, hC, hN, hni, T⟩ := exc_obj I.kIn q
  refine wpAny_call_exc_subT F T hC hN hni (fun h' e hm => ?_) (by show 0 ≤ sizeLine; exact Nat.zero_le _)
  exact mk_of I hm r h (I.hok.gone hm.new)
/-- the class at C is an own exception class without __init__ -/
structure XcHas (X : Cx) (x : Str) (C : Addr) : Prop where
  q : PySem.W.excIn X.K C [.type "ValueError", .type "Exception", .type "BaseException", .type "object"] "ValueError.__new__" = true
  g : X.mg x = some (.ref C)
  k : PySem.W.keepIn X.K (.ref C) = true
  b : PySem.W.subIn X.K (.ref C) (.type "BaseException") = some true
  t : PySem.W.typeIn X.K (.ref C) = some (.type "type")
  c : ExcC X.K C
def dRaise0 (C : Addr) : DS := fun E _ τ S => E (.ref C) [] τ S
theorem ss_raise0 {C : Addr} {pos2 : Pos} (hc : X.calm = true) (h : XcHas X x C) (hg : Gl X x) (hdb : (x == ("__debug__" : Str)) = false) : SS X (.Raise (some (.Call (.Name x p) [] [] pos)) none pos2) (dRaise0 C) := by
  intro _ ED H0 tk
  refine ⟨_, ps_raise hc tk (pmk_own0 PySem.F.excBase_ValueError h.q h.g h.k (raises_own h.b h.t) hg hdb), fun σ H τ S DD D' r h k => ?_⟩
  exact ⟨τ, S, [], r, rfl, h⟩

/-! ### a def's body -/
/-- the names' values at the entry -/
def startD (N : List Str) (ds : List D) : SDl := ds.map some ++ List.replicate (N.length - ds.length) none
theorem rl_start {K : PySem.W.Frag} {H : Hp} {N : List Str} {ds : List D} {vs : List V} {S : SH} (a : Abs K H S) (d : DtL K H ds vs) : Rl K H H (L2.start N vs) (startD N ds) S := by
  refine ⟨HLe.rfl, ?_, fun i e q => ?_, a⟩
  · unfold startD L2.start
    rw [List.length_append, List.length_append, List.length_map, List.length_map, List.length_replicate, List.length_replicate, d.length]
  · unfold startD at q
    unfold L2.start
    by_cases lt : i < ds.length
    · rw [List.getElem?_append_left (by simpa using lt), List.getElem?_map] at q
      have lt' : i < vs.length := by rw [← d.length]; exact lt
      rw [List.getElem?_append_left (by simpa using lt'), List.getElem?_map]
      cases z : ds[i]? with
      | none => rw [z] at q; cases q
      | some d' =>
        rw [z] at q
        cases q
        obtain ⟨v, h1, h2⟩ := d.get z
        exact ⟨v, by rw [h1]; rfl, h2⟩
    · rw [List.getElem?_append_right (by simpa using lt)] at q
      rw [List.getElem?_replicate] at q
      split at q <;> cases q
/-- what a body is to do -/
def bodyW (N : List Str) (t : DS) (sp : DSp) : Prop := ∀ ds S Q E, sp ds S Q E → t (fun cls fs _ S' => wk (E cls fs) S') { nx := fun _ S' => wk (Q .non) S', rt := Q } (startD N ds) S
section
variable {P : Program} {w : World} {K : PySem.W.Frag} {mg : Str → Option Value} {base : Heap}
/-- THE RULE for a def -/
theorem fn_ok {q qual : Str} {params : Arguments} {body : List Stmt} {scope : Scope} {f : Addr} {fd : FuncData} {N ps : List Str} {k : Nat} {sp : DSp} {tb : DS} (F : FunD K q qual params body scope [] [] f fd) (hS : FnScope N ps scope)
    (len : ∀ ds S Q E, sp ds S Q E → ds.length = ps.length)
    (hb : ∀ (cdv : Value) (A : Around) (outer : List Env) (s : Shared) (H : Hp) (E : XK), Room k (A.deeper (envOfC qual scope s.heap.objs.size f cdv)) → SSs (cxOf (L2.CX P w) P w K mg base N qual scope f cdv A outer s H E) body tb)
    (hw : bodyW N tb sp) : FnOk P w K mg base (L2.CX P w) (k + 1) f fd ps (lift K sp) := by
  refine F.ok hS (fun vs H Q E ⟨ds, S, QD, ED, a, d, h, _⟩ => by rw [← d.length]; exact len ds S QD ED h) fun cdv A outer s H vs Q E hr ⟨ds, S, QD, ED, a, d, h, kq, ke⟩ => ?_
  have tk : Takes (cxOf (L2.CX P w) P w K mg base N qual scope f cdv A outer s H E) (liftE K H fun cls fs _ S' => wk (ED cls fs) S') :=
    (takes_of (E := E) rfl rfl rfl rfl).imp fun cls dd σ H' ⟨τ, S', fs, r, fr, S'', l, z⟩ => ke cls dd H' fs S'' r.le (r.ab.le l) fr z
  obtain ⟨tt, p, kk⟩ := hb cdv A outer s H E hr (passes_of rfl) _ H tk
  refine ⟨tt, p, kk _ H _ S _ _ (rl_start a d) (hw ds S QD ED h) ⟨fun σ' H' τ' S' m r ⟨S'', l, z⟩ => kq .non H' .non S'' m (r.ab.le l) .non z, fun v H' d' S' m a' dv z => kq v H' d' S' m a' dv z, fun _ _ _ _ _ _ z => z.elim, fun _ _ _ _ _ _ z => z.elim⟩⟩
end
end
end DL

set_option Elab.async false
set_option linter.all false
set_option maxRecDepth 100000
set_option maxHeartbeats 1000000
namespace DL
open PySem PySem.Spec PyProof.Rows L2

/-! ### arithmetic -/
/-- two ints, a condition, a value -/
def pI (C : Int → Int → Bool) (g : Int → Int → D) : D → D → SH → Res := fun x y _ => match x, y with
  | .int i, .int j => if C i j = true then .val (g i j) else .bad
  | _, _ => .bad
theorem pI_int (C : Int → Int → Bool) (g : Int → Int → D) (i j : Int) (S : SH) : pI C g (.int i) (.int j) S = if C i j = true then .val (g i j) else .bad := rfl
section
variable {X : Cx}
theorem opI_D {f : Value → Value → Sem Value} {C : Int → Int → Bool} {g : Int → Int → D} {gv : Int → Int → V} {r : R2} (h : OpR X f r) (hr : ∀ i j H Q, C i j = true → Q (gv i j) H → r (.int i) (.int j) H Q)
    (hg : ∀ H i j, Dt X.K H (g i j) (gv i j)) : OpD X f (pI C g) := by
  refine ⟨r, h, fun x y v u H S Q R a d d' w k => ?_⟩
  cases x with
  | int i =>
    cases y with
    | int j =>
      cases d
      cases d'
      rw [pI_int] at w
      split at w
      · rename_i c
        exact hr i j H R c (k _ H _ S HLe.rfl a (hg H i j) w)
      · exact w.elim
    | _ => exact w.elim
  | _ => exact w.elim
def cYes : Int → Int → Bool := fun _ _ => true
def pAddI : D → D → SH → Res := pI cYes fun i j => .int (i + j)
def pSub : D → D → SH → Res := pI cYes fun i j => .int (i - j)
def b64 (i : Int) : Bool := decide (-(2 ^ 64) < i) && decide (i < 2 ^ 64)
def pMulI : D → D → SH → Res := pI (fun i j => b64 i || b64 j) fun i j => .int (i * j)
def pDiv : D → D → SH → Res := pI (fun _ j => decide (0 < j) && decide (j < 1073741824)) fun i j => .int (i / j)
def pMod : D → D → SH → Res := pI (fun _ j => decide (0 < j)) fun i j => .int (i % j)
def pPow : D → D → SH → Res := pI (fun i j => decide (0 ≤ j) && decide (j ≤ 1000000) && decide (i.natAbs < 2 ^ 64)) fun i j => .int (i ^ j.toNat)
theorem od_addI : OpD X (binaryOp .Add) pAddI := opI_D op_add (fun i j H Q _ q => ⟨i, j, rfl, rfl, q⟩) fun _ i j => .int _
theorem od_sub : OpD X (binaryOp .Sub) pSub := opI_D op_sub (fun i j H Q _ q => ⟨i, j, rfl, rfl, q⟩) fun _ i j => .int _
theorem b64_ok {i : Int} (h : b64 i = true) : -(2 ^ 64) < i ∧ i < 2 ^ 64 := by
  unfold b64 at h
  rw [Bool.and_eq_true, decide_eq_true_eq, decide_eq_true_eq] at h
  exact h
theorem od_mulI : OpD X (binaryOp .Mult) pMulI := opI_D op_mul (fun i j H Q c q => ⟨i, j, rfl, rfl, by
  rcases Bool.or_eq_true_iff.mp c with c | c
  · exact .inl (b64_ok c)
  · exact .inr (b64_ok c), q⟩) fun _ i j => .int _
theorem od_div : OpD X (binaryOp .FloorDiv) pDiv := opI_D op_fdiv (fun i j H Q c q => ⟨i, j, rfl, rfl, by
  rw [Bool.and_eq_true, decide_eq_true_eq, decide_eq_true_eq] at c; exact c, q⟩) fun _ i j => .int _
theorem od_mod : OpD X (binaryOp .Mod) pMod := opI_D op_mod (fun i j H Q c q => ⟨i, j, rfl, rfl, of_decide_eq_true c, q⟩) fun _ i j => .int _
theorem od_pow : OpD X (binaryOp .Pow) pPow := opI_D op_pow (fun i j H Q c q => ⟨i, j, rfl, rfl, by
  rw [Bool.and_eq_true, Bool.and_eq_true, decide_eq_true_eq, decide_eq_true_eq, decide_eq_true_eq] at c; exact ⟨c.1.1, c.1.2, c.2⟩, q⟩) fun _ i j => .int _
def pNeg : D → SH → Res := fun x _ => match x with
  | .int i => .val (.int (-i))
  | _ => .bad
theorem ud_neg : UnD X (unaryOp .USub) pNeg := ⟨_, un_neg, fun x v H S Q R a d w k => by
  cases x with
  | int i => cases d; exact ⟨i, rfl, k _ H _ S HLe.rfl a (.int _) w⟩
  | _ => exact w.elim⟩

/-! ### texts, lists, tuples joined -/
def pAddS : D → D → SH → Res := fun x y _ => match x, y with
  | .str i, .str j => if i.length + j.length ≤ sizeLine then .val (.str (i ++ j)) else .bad
  | _, _ => .bad
theorem od_addS : OpD X (binaryOp .Add) pAddS := ⟨_, op_add_str, fun x y v u H S Q R a d d' w k => by
  cases x with
  | str i =>
    cases y with
    | str j =>
      cases d
      cases d'
      unfold pAddS at w
      dsimp only at w
      split at w
      · rename_i c
        exact ⟨i, j, rfl, rfl, c, k _ H _ S HLe.rfl a (.str _) w⟩
      · exact w.elim
    | _ => exact w.elim
  | _ => exact w.elim⟩
/-- a live list -/
def lstAt (S : SH) (x : D) : Option (List D) := match x with
  | .ref a => (match S a with
    | some (.lst l) => some l
    | _ => none)
  | _ => none
theorem lstAt_ok {K : PySem.W.Frag} {H : Hp} {S : SH} {x : D} {v : V} {l : List D} (a : Abs K H S) (d : Dt K H x v) (e : lstAt S x = some l) : ∃ p vs, x = .ref p ∧ v = .ref p ∧ S p = some (.lst l) ∧ H p = some (.lst vs) ∧ DtL K H l vs := by
  unfold lstAt at e
  cases x with
  | ref p =>
    cases d
    dsimp only at e
    cases q : S p with
    | none => rw [q] at e; cases e
    | some o =>
      cases o with
      | lst l' =>
        rw [q] at e
        cases e
        obtain ⟨vs, h1, h2⟩ := a p _ q
        exact ⟨p, vs, rfl, rfl, q, h1, h2⟩
  | _ => cases e
def pCatL : D → D → SH → Res := fun x y S => match lstAt S x, lstAt S y with
  | some l, some l' => if l.length + l'.length ≤ sizeLine then .new (.lst (l ++ l')) else .bad
  | _, _ => .bad
theorem od_catL : OpD X (binaryOp .Add) pCatL := ⟨_, op_cat, fun x y v u H S Q R a d d' w k => by
  unfold pCatL at w
  split at w
  · rename_i l l' e e'
    obtain ⟨p, vs, rfl, rfl, s1, h1, r1⟩ := lstAt_ok a d e
    obtain ⟨p', vs', rfl, rfl, s2, h2, r2⟩ := lstAt_ok a d' e'
    split at w
    · rename_i c
      refine ⟨p, p', vs, vs', rfl, rfl, h1, h2, by rw [← r1.length, ← r2.length]; exact c, fun q hq => ?_⟩
      exact k _ _ (.ref q) _ (HLe.new hq) (a.new hq ⟨_, upd_same, (r1.append r2).mono (HLe.new hq)⟩) (.ref q) (w q (a.free hq))
    · exact w.elim
  · exact w.elim⟩
/-- tuple + tuple: as it lies -/
theorem op_catF : OpR X (binaryOp .Add) (fun x y H Q => ∃ a b xs ys, x = .ref a ∧ y = .ref b ∧ SqT X.K H a xs ∧ SqT X.K H b ys ∧ xs.length + ys.length ≤ sizeLine ∧
    (xs = [] → Q (.ref b) H) ∧ (xs ≠ [] → ys = [] → Q (.ref a) H) ∧ (xs ≠ [] → ys ≠ [] → ∀ p o, H p = none → o.dict = none → Q (.ref p) (upd H p (.frz o (.tup (xs ++ ys)))))) := by
  intro pins s σ H x y v u Q I rx ry h
  obtain ⟨a, b, xs, ys, rfl, rfl, ha, hb, hz, q0, q1, q2⟩ := h
  cases rx
  cases ry
  obtain ⟨its, r1, p1, _⟩ := I.tuple ha
  obtain ⟨its2, r2, p2, _⟩ := I.tuple hb
  by_cases hx : xs = []
  · subst hx
    cases r1
    exact cat_tup0 p1 p2 ⟨.ref b, H, I, rfl, q0 rfl⟩
  · have hn : its ≠ [] := fun e => hx (by subst e; exact List.eq_nil_of_length_eq_zero r1.length)
    refine HT.cat_tup p1 p2 hn (fun e => ?_) (fun e => ?_) (by rw [← r1.length, ← r2.length]; exact hz)
    · exact ⟨.ref a, H, I, rfl, q1 hx (r2.nil_iff.mp e)⟩
    · have hy : ys ≠ [] := fun z => e (r2.nil_iff.mpr z)
      have hf : H s.heap.objs.size = none := I.hok.fresh (Nat.le_refl _)
      refine ⟨.ref s.heap.objs.size, _, I.laid (t' := s.toks) (o := .frz { cls := .type "tuple", data := .seq (its ++ its2).toArray } (.tup (xs ++ ys))) (fun b u e => Heap.get?_push_of_some _ e) (Nat.le_refl _) ?_, rfl, q2 hx hy _ _ hf rfl⟩
      exact ⟨Heap.get?_push_size _ rfl, by rw [List.length_append]; exact hz, _, r1.append r2, ⟨_, Heap.get?_push_size _ rfl, rfl, _, rfl⟩⟩
theorem tupSame {K : PySem.W.Frag} {H : Hp} {l : List D} {v : V} (d : Dt K H (.tup l) v) : ∃ a xs, v = .ref a ∧ TupAt K H a xs ∧ DtL K H l xs := by
  cases d with
  | tup h r => exact ⟨_, _, rfl, h, r⟩
def pCatT : D → D → SH → Res := fun x y _ => match x, y with
  | .tup l, .tup l' => if l.length + l'.length ≤ sizeLine then .val (.tup (l ++ l')) else .bad
  | _, _ => .bad
theorem od_catT : OpD X (binaryOp .Add) pCatT := ⟨_, op_catF, fun x y v u H S Q R a d d' w k => by
  cases x with
  | tup l =>
    cases y with
    | tup l' =>
      obtain ⟨p, xs, rfl, h1, r1⟩ := tupSame d
      obtain ⟨p', ys, rfl, h2, r2⟩ := tupSame d'
      unfold pCatT at w
      dsimp only at w
      split at w
      · rename_i c
        refine ⟨p, p', xs, ys, rfl, rfl, h1.sq, h2.sq, by rw [← r1.length, ← r2.length]; exact c, fun e => ?_, fun _ e => ?_, fun _ _ q o hq hd => ?_⟩
        · subst e
          cases r1
          exact k _ H _ S HLe.rfl a (by rw [List.nil_append]; exact d') w
        · subst e
          cases r2
          exact k _ H _ S HLe.rfl a (by rw [List.append_nil]; exact d) w
        · exact k _ _ _ S (HLe.new hq) (a.hid hq) (.tup (tupAt_new hd) ((r1.append r2).mono (HLe.new hq))) w
      · exact w.elim
    | _ => exact w.elim
  | _ => exact w.elim⟩
def pAdd : D → D → SH → Res := orR pAddI (orR pAddS (orR pCatL pCatT))
theorem od_add : OpD X (binaryOp .Add) pAdd := od_addI.or (od_addS.or (od_catL.or od_catT))

/-! ### lists, tuples repeated -/
def pRepL : D → D → SH → Res := fun x y S => match lstAt S x, y with
  | some l, .int k => if decide (-(2 ^ 63) ≤ k) && decide (k < 2 ^ 63) && decide (l.length * k.toNat ≤ sizeLine) then .new (.lst (List.replicate k.toNat l).flatten) else .bad
  | _, _ => .bad
theorem od_repL : OpD X (binaryOp .Mult) pRepL := ⟨_, op_rep, fun x y v u H S Q R a d d' w k => by
  unfold pRepL at w
  split at w
  · rename_i l n e
    obtain ⟨p, vs, rfl, rfl, s1, h1, r1⟩ := lstAt_ok a d e
    cases d'
    split at w
    · rename_i c
      rw [Bool.and_eq_true, Bool.and_eq_true, decide_eq_true_eq, decide_eq_true_eq, decide_eq_true_eq] at c
      refine ⟨p, n, vs, rfl, rfl, h1, c.1.1, c.1.2, by rw [← r1.length]; exact c.2, fun q hq => ?_⟩
      exact k _ _ (.ref q) _ (HLe.new hq) (a.new hq ⟨_, upd_same, (r1.rep _).mono (HLe.new hq)⟩) (.ref q) (w q (a.free hq))
    · exact w.elim
  · exact w.elim⟩
def pMul : D → D → SH → Res := orR pMulI pRepL
theorem od_mul : OpD X (binaryOp .Mult) pMul := od_mulI.or od_repL

/-! ### order of ints -/
def pLt : D → D → SH → Res := pI cYes fun i j => .bl (decide (i < j))
def pLe : D → D → SH → Res := pI cYes fun i j => .bl (decide (i ≤ j))
def pGt : D → D → SH → Res := pI cYes fun i j => .bl (decide (j < i))
def pGe : D → D → SH → Res := pI cYes fun i j => .bl (decide (j ≤ i))
theorem od_lt : OpD X (compareOp .Lt) pLt := opI_D op_lt (fun i j H Q _ q => ⟨i, j, rfl, rfl, q⟩) fun _ i j => .bl _
theorem od_le : OpD X (compareOp .LtE) pLe := opI_D op_le (fun i j H Q _ q => ⟨i, j, rfl, rfl, q⟩) fun _ i j => .bl _
theorem od_gt : OpD X (compareOp .Gt) pGt := opI_D op_gt (fun i j H Q _ q => ⟨i, j, rfl, rfl, q⟩) fun _ i j => .bl _
theorem od_ge : OpD X (compareOp .GtE) pGe := opI_D op_ge (fun i j H Q _ q => ⟨i, j, rfl, rfl, q⟩) fun _ i j => .bl _

/-! ### is -/
def pIs (neg : Bool) : D → D → SH → Res := fun x y _ => match y with
  | .non => .val (.bl (match x with
    | .non => !neg
    | _ => neg))
  | .bl b => (match x with
    | .bl a => .val (.bl (if neg then !decide (a = b) else decide (a = b)))
    | _ => .bad)
  | _ => .bad
theorem od_is : OpD X (compareOp .Is) (pIs false) := ⟨_, op_isN.or op_is_bl, fun x y v u H S Q R a d d' w k => by
  cases y with
  | non =>
    cases d'
    refine .inl ⟨rfl, k _ H _ S HLe.rfl a ?_ w⟩
    cases x <;> cases d <;> exact .bl _
  | bl b =>
    cases d'
    cases x with
    | bl c => cases d; exact .inr ⟨c, b, rfl, rfl, k _ H _ S HLe.rfl a (.bl _) w⟩
    | _ => exact w.elim
  | _ => exact w.elim⟩
theorem od_isN : OpD X (compareOp .IsNot) (pIs true) := ⟨_, op_notN.or op_isnot_bl, fun x y v u H S Q R a d d' w k => by
  cases y with
  | non =>
    cases d'
    refine .inl ⟨rfl, k _ H _ S HLe.rfl a ?_ w⟩
    cases x <;> cases d <;> exact .bl _
  | bl b =>
    cases d'
    cases x with
    | bl c => cases d; exact .inr ⟨c, b, rfl, rfl, k _ H _ S HLe.rfl a (.bl _) w⟩
    | _ => exact w.elim
  | _ => exact w.elim⟩

/-! ### equality -/
mutual
/-- data as the library compares it; f: what stands at an address -/
def D.pyF (f : Addr → Option PyData) : D → Option PyData
  | .non => some .none
  | .bl b => some (.bool b)
  | .int i => some (.int i)
  | .str x => some (.str x)
  | .tup l => (D.pysF f l).map .tuple
  | .fro l => (D.pysF f l).map .list
  | .ref a => f a
def D.pysF (f : Addr → Option PyData) : List D → Option (List PyData)
  | [] => some []
  | d :: ds => (match D.pyF f d, D.pysF f ds with
    | some x, some xs => some (x :: xs)
    | _, _ => none)
end
def pyR (S : SH) : Nat → Addr → Option PyData
  | 0, _ => none
  | n + 1, a => (match S a with
    | some (.lst l) => (D.pysF (pyR S n) l).map .list
    | _ => none)
def D.pyA (S : SH) (d : D) : Option PyData := d.pyF (pyR S 8)
mutual
theorem py_dp {K : PySem.W.Frag} {H : Hp} {f : Addr → Option PyData} (hf : ∀ a pd, f a = some pd → Dp K H (.ref a) pd) : ∀ {d : D} {v : V} {pd : PyData}, Dt K H d v → d.pyF f = some pd → Dp K H v pd
  | _, _, _, .non, e => by cases e; exact .non
  | _, _, _, .bl b, e => by cases e; exact .bl b
  | _, _, _, .int i, e => by cases e; exact .int i
  | _, _, _, .str x, e => by cases e; exact .str x
  | _, _, _, .ref a, e => hf a _ e
  | _, _, _, .tup (l := l) h r, e => by
    unfold D.pyF at e
    cases q : D.pysF f l with
    | none => rw [q] at e; cases e
    | some xs => rw [q] at e; cases e; exact .tup h.sq (pys_dp hf r q)
  | _, _, _, .fro (l := l) h r, e => by
    unfold D.pyF at e
    cases q : D.pysF f l with
    | none => rw [q] at e; cases e
    | some xs => rw [q] at e; cases e; exact .lst h.sq (pys_dp hf r q)
theorem pys_dp {K : PySem.W.Frag} {H : Hp} {f : Addr → Option PyData} (hf : ∀ a pd, f a = some pd → Dp K H (.ref a) pd) : ∀ {ds : List D} {vs : List V} {ps : List PyData}, DtL K H ds vs → D.pysF f ds = some ps → DpAll K H vs ps
  | _, _, _, .nil, e => by cases e; exact .nil
  | _, _, _, .cons (d := d) (ds := ds) h t, e => by
    unfold D.pysF at e
    cases q : D.pyF f d with
    | none => rw [q] at e; cases e
    | some x =>
      cases q' : D.pysF f ds with
      | none => rw [q, q'] at e; cases e
      | some xs => rw [q, q'] at e; cases e; exact .cons (py_dp hf h q) (pys_dp hf t q')
end
theorem pyR_dp {K : PySem.W.Frag} {H : Hp} {S : SH} (a : Abs K H S) : ∀ (n : Nat) (p : Addr) (pd : PyData), pyR S n p = some pd → Dp K H (.ref p) pd
  | 0, _, _, e => by cases e
  | n + 1, p, pd, e => by
    unfold pyR at e
    split at e
    · rename_i l q
      obtain ⟨vs, h1, r⟩ := a p _ q
      cases z : D.pysF (pyR S n) l with
      | none => rw [z] at e; cases e
      | some xs => rw [z] at e; cases e; exact .lst (SqL.of h1) (pys_dp (pyR_dp a n) r z)
    · cases e
def pEq (neg : Bool) : D → D → SH → Res := fun x y S => match x.pyA S, y.pyA S with
  | some d, some e => if SeqAt.shaped d && SeqAt.shaped e then .val (.bl (if neg then !PyData.eqv d e else PyData.eqv d e)) else .bad
  | _, _ => .bad
theorem od_eq (hu : X.A.units + 64 < cLine) : OpD X (compareOp .Eq) (pEq false) := ⟨_, op_eqD hu, fun x y v u H S Q R a d d' w k => by
  unfold pEq at w
  split at w
  · rename_i pd pe e e'
    split at w
    · rename_i c
      rw [Bool.and_eq_true] at c
      exact ⟨pd, pe, py_dp (pyR_dp a 8) d e, py_dp (pyR_dp a 8) d' e', c.1, c.2, k _ H _ S HLe.rfl a (.bl _) w⟩
    · exact w.elim
  · exact w.elim⟩
theorem od_ne (hu : X.A.units + 64 < cLine) : OpD X (compareOp .NotEq) (pEq true) := ⟨_, op_neD hu, fun x y v u H S Q R a d d' w k => by
  unfold pEq at w
  split at w
  · rename_i pd pe e e'
    split at w
    · rename_i c
      rw [Bool.and_eq_true] at c
      exact ⟨pd, pe, py_dp (pyR_dp a 8) d e, py_dp (pyR_dp a 8) d' e', c.1, c.2, k _ H _ S HLe.rfl a (.bl _) w⟩
    · exact w.elim
  · exact w.elim⟩

/-! ### in -/
def D.flat : D → Bool
  | .non => true
  | .bl _ => true
  | .int _ => true
  | .str _ => true
  | _ => false
/-- == of flat things -/
def eqF : D → D → Bool
  | .non, .non => true
  | .bl a, .bl b => a == b
  | .bl a, .int b => (if a then 1 else 0) == b
  | .int a, .bl b => a == (if b then 1 else 0)
  | .int a, .int b => a == b
  | .str a, .str b => a == b
  | _, _ => false
theorem eqF_V {K : PySem.W.Frag} {H : Hp} {x y : D} {v u : V} (fx : x.flat = true) (fy : y.flat = true) (d : Dt K H x v) (d' : Dt K H y u) : eqV v u = eqF x y := by
  cases x <;> first | (cases d; cases y <;> first | (cases d'; rfl) | cases fy) | cases fx
theorem flat_V {K : PySem.W.Frag} {H : Hp} {x : D} {v : V} (fx : x.flat = true) (d : Dt K H x v) : flatV v = true := by
  cases x <;> first | (cases d; rfl) | cases fx
theorem flats_V {K : PySem.W.Frag} {H : Hp} : ∀ {l : List D} {vs : List V}, l.all D.flat = true → DtL K H l vs → vs.all flatV = true
  | [], _, _, .nil => rfl
  | d :: ds, _, h, .cons a b => by
    rw [List.all_cons, Bool.and_eq_true] at h ⊢
    exact ⟨flat_V h.1 a, flats_V h.2 b⟩
def inF (x : D) (l : List D) : Bool := l.any fun y => eqF y x
theorem inF_V {K : PySem.W.Frag} {H : Hp} {x : D} {v : V} (fx : x.flat = true) (d : Dt K H x v) : ∀ {l : List D} {vs : List V}, l.all D.flat = true → DtL K H l vs → inV v vs = inF x l
  | [], _, _, .nil => rfl
  | y :: ds, _, h, .cons a b => by
    rw [List.all_cons, Bool.and_eq_true] at h
    unfold inV inF
    rw [List.any_cons, List.any_cons, eqF_V h.1 fx a d]
    exact congrArg _ (inF_V fx d h.2 b)
def pInF (neg : Bool) : D → D → SH → Res := fun x y S => match itemsOf y S with
  | some l => if x.flat && l.all D.flat then .val (.bl (if neg then !inF x l else inF x l)) else .bad
  | none => .bad
theorem items_ok {K : PySem.W.Frag} {H : Hp} {S : SH} {y : D} {u : V} {l : List D} (a : Abs K H S) (d : Dt K H y u) (e : itemsOf y S = some l) : ∃ p vs, u = .ref p ∧ (SqL K H p vs ∨ SqT K H p vs) ∧ DtL K H l vs := by
  unfold itemsOf at e
  cases y with
  | tup l' => cases e; obtain ⟨p, xs, rfl, h, r⟩ := tupSame d; exact ⟨p, xs, rfl, .inr h.sq, r⟩
  | fro l' =>
    cases e
    cases d with
    | fro h r => exact ⟨_, _, rfl, .inl h.sq, r⟩
  | ref p =>
    cases d
    dsimp only at e
    split at e
    · rename_i l' q
      cases e
      obtain ⟨vs, h1, r⟩ := a p _ q
      exact ⟨p, vs, rfl, .inl (SqL.of h1), r⟩
    · cases e
  | _ => cases e
theorem od_inF (neg : Bool) : OpD X (compareOp (if neg then .NotIn else .In)) (pInF neg) := by
  refine ⟨rIn X.K neg, ?_, fun x y v u H S Q R a d d' w k => ?_⟩
  · cases neg
    · exact op_in_seq
    · exact op_notIn_seq
  · unfold pInF at w
    split at w
    · rename_i l e
      split at w
      · rename_i c
        rw [Bool.and_eq_true] at c
        obtain ⟨p, vs, rfl, h1, r⟩ := items_ok a d' e
        refine ⟨p, vs, rfl, h1, flat_V c.1 d, flats_V c.2 r, k _ H _ S HLe.rfl a (.bl _) ?_⟩
        rw [inF_V c.1 d c.2 r]
        exact w
      · exact w.elim
    · exact w.elim
/-- in a list of any data -/
def lstOf (y : D) (S : SH) : Option (List D) := match y with
  | .fro l => some l
  | .ref a => (match S a with
    | some (.lst l) => some l
    | _ => none)
  | _ => none
def pInD (neg : Bool) : D → D → SH → Res := fun x y S => match lstOf y S with
  | some l => (match x.pyA S, D.pysF (pyR S 8) l with
    | some d, some ds => if SeqAt.shaped d && SeqAt.shaped (.list ds) then .val (.bl (if neg then !(ds.any fun z => PyData.eqv z d) else ds.any fun z => PyData.eqv z d)) else .bad
    | _, _ => .bad)
  | none => .bad
end
end DL

set_option Elab.async false
set_option linter.all false
set_option maxRecDepth 100000
set_option maxHeartbeats 1000000
namespace DL
open PySem PySem.Spec PyProof.Rows L2
section
variable {X : Cx} {a b c e e2 : Expr} {es : List Expr} {ta tb tc te : DE} {t u : DT} {ts : DA} {pos p p2 q : Pos} {st : Stmt} {rest : List Stmt} {s1 s2 : DS} {x : Str}

/-! ### in, of any data -/
theorem lstOf_dp {K : PySem.W.Frag} {H : Hp} {S : SH} {y : D} {u : V} {l : List D} {ds : List PyData} (a : Abs K H S) (d : Dt K H y u) (e : lstOf y S = some l) (e2 : D.pysF (pyR S 8) l = some ds) : Dp K H u (.list ds) := by
  unfold lstOf at e
  cases y with
  | fro l' =>
    cases e
    cases d with
    | fro h r => exact .lst h.sq (pys_dp (pyR_dp a 8) r e2)
  | ref p =>
    cases d
    dsimp only at e
    split at e
    · rename_i l' q
      cases e
      obtain ⟨vs, h1, r⟩ := a p _ q
      exact .lst (SqL.of h1) (pys_dp (pyR_dp a 8) r e2)
    · cases e
  | _ => cases e
theorem od_inD (hu : X.A.units + 65 < cLine) : OpD X (compareOp .In) (pInD false) := ⟨_, op_inD hu, fun x y v u H S Q R a d d' w k => by
  unfold pInD at w
  split at w
  · rename_i l e
    split at w
    · rename_i pd ds e1 e2
      split at w
      · rename_i c
        rw [Bool.and_eq_true] at c
        exact ⟨pd, ds, py_dp (pyR_dp a 8) d e1, lstOf_dp a d' e e2, c.1, c.2, k _ H _ S HLe.rfl a (.bl _) w⟩
      · exact w.elim
    · exact w.elim
  · exact w.elim⟩
theorem od_notInD (hu : X.A.units + 65 < cLine) : OpD X (compareOp .NotIn) (pInD true) := ⟨_, op_notInD hu, fun x y v u H S Q R a d d' w k => by
  unfold pInD at w
  split at w
  · rename_i l e
    split at w
    · rename_i pd ds e1 e2
      split at w
      · rename_i c
        rw [Bool.and_eq_true] at c
        exact ⟨pd, ds, py_dp (pyR_dp a 8) d e1, lstOf_dp a d' e e2, c.1, c.2, k _ H _ S HLe.rfl a (.bl _) w⟩
      · exact w.elim
    · exact w.elim
  · exact w.elim⟩
def pIn (neg : Bool) : D → D → SH → Res := orR (pInF neg) (pInD neg)
theorem od_in (hu : X.A.units + 65 < cLine) : OpD X (compareOp .In) (pIn false) := (od_inF false).or (od_inD hu)
theorem od_notIn (hu : X.A.units + 65 < cLine) : OpD X (compareOp .NotIn) (pIn true) := (od_inF true).or (od_notInD hu)

/-! ### subscripts -/
def pIx : D → D → SH → Res := fun x y S => match y with
  | .int i => (match itemsOf x S with
    | some l => (match atI l i with
      | some d => .val d
      | none => .bad)
    | none => .bad)
  | _ => .bad
theorem atI_V {K : PySem.W.Frag} {H : Hp} {l : List D} {vs : List V} {i : Int} {d : D} (r : DtL K H l vs) (e : atI l i = some d) : ∃ v, atI vs i = some v ∧ Dt K H d v := by
  unfold atI at e ⊢
  rw [← r.length]
  cases z : ixN l.length i with
  | none => rw [z] at e; cases e
  | some j =>
    rw [z] at e
    exact r.get (i := j) e
theorem ixd : IxD X pIx := ⟨_, ix_list.or ix_tup, fun x y v u H S Q R a d d' w k => by
  unfold pIx at w
  split at w
  · rename_i i
    cases d'
    split at w
    · rename_i l e
      obtain ⟨p, vs, rfl, h1, r⟩ := items_ok a d e
      split at w
      · rename_i z ez
        obtain ⟨z', hz, dz⟩ := atI_V r ez
        rcases h1 with h1 | h1
        · exact .inl ⟨p, vs, i, z', rfl, rfl, h1, hz, k _ H _ S HLe.rfl a dz w⟩
        · exact .inr ⟨p, vs, i, z', rfl, rfl, h1, hz, k _ H _ S HLe.rfl a dz w⟩
      · exact w.elim
    · exact w.elim
  · exact w.elim⟩
def pIxS : D → D → SH → Res := fun x y S => match x, y with
  | .str z, .int i => if z.length ≤ sizeLine then (match atI z.cps.toList i with
    | some c => .val (.str ⟨#[c]⟩)
    | none => .bad) else .bad
  | _, _ => .bad
theorem ixd_str : IxD X pIxS := ⟨_, ix_str, fun x y v u H S Q R a d d' w k => by
  unfold pIxS at w
  split at w
  · rename_i z i
    cases d
    cases d'
    split at w
    · rename_i hz
      split at w
      · rename_i c hc
        exact ⟨z, i, c, rfl, rfl, hz, hc, k _ H _ S HLe.rfl a (.str _) w⟩
      · exact w.elim
    · exact w.elim
  · exact w.elim⟩
def pIxA : D → D → SH → Res := orR pIx pIxS
theorem ixd_any : IxD X pIxA := ixd.or ixd_str
def pSetIx : D → D → D → SH → Res := fun o i d S => match i with
  | .int k => (match o, lstAt S o with
    | .ref p, some l => (match ixN l.length k with
      | some j => .put .non p (.lst (l.set j d))
      | none => .bad)
    | _, _ => .bad)
  | _ => .bad
theorem setd : SetD X pSetIx := ⟨_, set_list, fun o i d ov iv v H S Q R a ho hi hd w k => by
  unfold pSetIx at w
  split at w
  · rename_i n
    cases hi
    split at w
    · rename_i p l e
      obtain ⟨p', vs, e1, e2, s1, h1, r1⟩ := lstAt_ok a ho e
      cases e1
      subst e2
      split at w
      · rename_i j hj
        have mu : HLe H (upd H p (.lst (vs.set j v))) := HLe.put h1 fun _ _ _ z => by cases z
        exact ⟨p, vs, n, j, rfl, rfl, h1, by rw [← r1.length]; exact hj, k _ _ mu (a.put mu ⟨_, upd_same, (r1.set hd j).mono mu⟩) w⟩
      · exact w.elim
    · exact w.elim
  · exact w.elim⟩

/-! ### slices -/
def cutD {α : Type} (xs : List α) (lo hi : Option Int) : List α := (xs.drop (HT.sIx xs.length 0 lo)).take (HT.sIx xs.length xs.length hi - HT.sIx xs.length 0 lo)
theorem cut_V {K : PySem.W.Frag} {H : Hp} {l : List D} {vs : List V} (r : DtL K H l vs) (lo hi : Option Int) : DtL K H (cutD l lo hi) (cutV vs lo hi) := by
  unfold cutD cutV
  rw [← r.length]
  exact (r.drop _).take _
theorem cut_whole {α : Type} (xs : List α) (lo hi : Option Int) (h : HT.sIx xs.length 0 lo = 0 ∧ HT.sIx xs.length xs.length hi = xs.length) : cutD xs lo hi = xs := by
  unfold cutD
  rw [h.1, h.2]
  simp
/-- as it lies -/
def rSlF (K : PySem.W.Frag) : V → Option Int → Option Int → Hp → VK → Prop := fun x lo hi H Q => ∃ a xs, x = .ref a ∧ SqT K H a xs ∧
  (HT.sIx xs.length 0 lo = 0 ∧ HT.sIx xs.length xs.length hi = xs.length → Q (.ref a) H) ∧ (¬ (HT.sIx xs.length 0 lo = 0 ∧ HT.sIx xs.length xs.length hi = xs.length) → ∀ p o, H p = none → o.dict = none → Q (.ref p) (upd H p (.frz o (.tup (cutV xs lo hi)))))
theorem Vals.cutF {xs : List V} {us : List Value} (r : Vals xs us) (lo hi : Option Int) : Vals (cutV xs lo hi) ((us.drop (HT.sIx us.length 0 lo)).take (HT.sIx us.length us.length hi - HT.sIx us.length 0 lo)) := by
  unfold cutV
  rw [r.length]
  exact (r.drop _).take _
theorem sl_tupF : SlR X (rSlF X.K) := by
  intro pins s σ H x v vl vu lo hi sl Q I rx hs pl pu h
  obtain ⟨a, xs, rfl, hx, q1, q2⟩ := h
  cases rx
  obtain ⟨its, r, ht, hz⟩ := I.tuple hx
  have hlen : its.toArray.size = xs.length := by rw [List.size_toArray]; exact r.length.symm
  refine ⟨"tuple", _, PyProof.Rows.slot_tuple_getitem.lookup, ht.typeIs, ?_⟩
  by_cases hw : HT.sIx xs.length 0 lo = 0 ∧ HT.sIx xs.length xs.length hi = xs.length
  · exact getItem_tuple_whole ht hs pl pu (by rw [hlen]; exact hw) ⟨.ref a, H, I, rfl, q1 hw⟩
  · refine HT.getItem_tuple_cut ht hs pl pu (by rw [hlen]; exact hw) ?_ ?_
    · have hf : H s.heap.objs.size = none := I.hok.fresh (Nat.le_refl _)
      refine ⟨.ref s.heap.objs.size, _, I.laid (t' := s.toks) (o := .frz { cls := .type "tuple", data := .seq ((its.toArray.toList.drop (HT.sIx its.toArray.size 0 lo)).take (HT.sIx its.toArray.size its.toArray.size hi - HT.sIx its.toArray.size 0 lo)).toArray } (.tup (cutV xs lo hi))) (fun b u e => Heap.get?_push_of_some _ e) (Nat.le_refl _) ?_, rfl, q2 hw _ _ hf rfl⟩
      refine ⟨Heap.get?_push_size _ rfl, Nat.le_trans (cutV_length _ _ _) hz, _, ?_, ⟨_, Heap.get?_push_size _ rfl, rfl, _, rfl⟩⟩
      have := Vals.cutF r lo hi
      simpa using this
    · rw [hlen]; exact hz
def pSlice : D → Option Int → Option Int → SH → Res := fun x lo hi S => match x with
  | .tup l => .val (.tup (cutD l lo hi))
  | .fro l => .new (.lst (cutD l lo hi))
  | .ref p => (match S p with
    | some (.lst l) => .new (.lst (cutD l lo hi))
    | _ => .bad)
  | _ => .bad
/-- a part of a slice -/
abbrev DO1 := EK → SDl → SH → (Option Int → SH → Prop) → Prop
def SO (X : Cx) (e : Option Expr) (t : DO1) : Prop := ∀ ED H0, Takes X (liftE X.K H0 ED) → ∃ tt : TO, PO X e tt ∧
  ∀ (σ : L2.St) (H : Hp) (τ : SDl) (S : SH) (Q : Option Int → SH → Prop) (R : Option Int → Hp → Prop), Rl X.K H0 H σ τ S → t ED τ S Q →
    (∀ o H' S', HLe H H' → Abs X.K H' S' → Q o S' → R o H') → tt σ H R
def oNone : DO1 := fun _ _ S Q => Q none S
def oSome (te : DE) : DO1 := fun E τ S Q => te E τ S fun d S' => match d with
  | .int i => Q (some i) S'
  | _ => False
theorem so_none : SO X none oNone := fun _ _ _ => ⟨_, po_none, fun σ H τ S Q R r h k => k none H S HLe.rfl r.ab h⟩
theorem so_some (he : SE X e te) : SO X (some e) (oSome te) := by
  intro ED H0 tk
  obtain ⟨ra, pa, ka⟩ := he ED H0 tk
  refine ⟨_, po_some pa, fun σ H τ S Q R r h k => ?_⟩
  refine ka σ H τ S _ _ r h fun v H' d S' m a' d' q => ?_
  cases d with
  | int i => cases d'; exact ⟨i, rfl, k _ H' S' m a' q⟩
  | _ => exact q.elim
def dSlice (te : DE) (lo hi : DO1) : DE := fun E τ S Q => te E τ S fun x S1 => lo E τ S1 fun l S2 => hi E τ S2 fun h S3 => resW (pSlice x l h S3) S3 Q
theorem se_slice {lo hi : Option Expr} {tl th : DO1} (he : SE X e te) (hl : SO X lo tl) (hh : SO X hi th) : SE X (.Subscript e (.Slice lo hi none p2) pos) (dSlice te tl th) := by
  intro ED H0 tk
  obtain ⟨ra, pa, ka⟩ := he ED H0 tk
  obtain ⟨rl, pl, kl⟩ := hl ED H0 tk
  obtain ⟨rh, ph, kh⟩ := hh ED H0 tk
  refine ⟨_, pe_slice (sl_list.or sl_tupF) pa pl ph, fun σ H τ S Q R r h k => ?_⟩
  refine ka σ H τ S _ _ r h fun v H1 x S1 m1 a1 d1 q1 => ?_
  refine kl σ H1 τ S1 _ _ (r.mono m1 a1) q1 fun l H2 S2 m2 a2 q2 => ?_
  refine kh σ H2 τ S2 _ _ (r.mono (m1.trans m2) a2) q2 fun hh H3 S3 m3 a3 q3 => ?_
  have d3 := (d1.mono m2).mono m3
  have mm := (m1.trans m2).trans m3
  cases x with
  | tup l' =>
    obtain ⟨p, xs, rfl, h1, r1⟩ := tupSame d3
    refine .inr ⟨p, xs, rfl, h1.sq, fun z => ?_, fun z p' o hp hd => ?_⟩
    · have e : cutD l' l hh = l' := cut_whole l' l hh (by rw [r1.length]; exact z)
      have q3 : Q (.tup (cutD l' l hh)) S3 := q3
      rw [e] at q3
      exact k _ H3 _ S3 mm a3 d3 q3
    · exact k _ _ _ S3 (mm.trans (HLe.new hp)) (a3.hid hp) (.tup (tupAt_new hd) ((cut_V r1 _ _).mono (HLe.new hp))) q3
  | fro l' =>
    cases d3 with
    | fro h1 r1 =>
      refine .inl ⟨_, _, rfl, h1.sq, fun p' hp => ?_⟩
      exact k _ _ (.ref p') _ (mm.trans (HLe.new hp)) (a3.new hp ⟨_, upd_same, (cut_V r1 _ _).mono (HLe.new hp)⟩) (.ref p') (q3 p' (a3.free hp))
  | ref p' =>
    cases d3
    unfold pSlice at q3
    cases e : S3 p' with
    | none => simp only [e] at q3; exact q3.elim
    | some o =>
      cases o with
      | lst l' =>
        simp only [e] at q3
        obtain ⟨vs, h1, r1⟩ := a3 p' _ e
        refine .inl ⟨_, _, rfl, SqL.of h1, fun p'' hp => ?_⟩
        exact k _ _ (.ref p'') _ (mm.trans (HLe.new hp)) (a3.new hp ⟨_, upd_same, (cut_V r1 _ _).mono (HLe.new hp)⟩) (.ref p'') (q3 p'' (a3.free hp))
  | _ => exact q3.elim

/-! ### built-in functions -/
def pLen : List D → SH → Res := fun xs S => match xs with
  | [.str z] => if z.length ≤ sizeLine then .val (.int z.length) else .bad
  | [x] => (match itemsOf x S with
    | some l => .val (.int l.length)
    | none => .bad)
  | _ => .bad
theorem cd_len : CallD X (.builtin "len") pLen := ⟨_, call_len_seq.or call_len_str, fun xs vs H S Q R a d w k => by
  unfold pLen at w
  split at w
  · rename_i z
    obtain ⟨v, rfl, d1⟩ := d.one
    cases d1
    split at w
    · rename_i hz; exact .inr ⟨z, rfl, hz, k _ H _ S HLe.rfl a (.int _) w⟩
    · exact w.elim
  · rename_i x _
    obtain ⟨v, rfl, d1⟩ := d.one
    split at w
    · rename_i l e
      obtain ⟨p, vs, rfl, h1, r⟩ := items_ok a d1 e
      refine .inl ⟨p, vs, rfl, h1, k _ H _ S HLe.rfl a ?_ w⟩
      rw [r.length]
      exact .int _
    · exact w.elim
  · exact w.elim⟩
def pAbs : List D → SH → Res := fun xs _ => match xs with
  | [.int i] => .val (.int (if i < 0 then -i else i))
  | _ => .bad
theorem cd_abs : CallD X (.builtin "abs") pAbs := ⟨_, call_abs, fun xs vs H S Q R a d w k => by
  unfold pAbs at w
  split at w
  · obtain ⟨v, rfl, d1⟩ := d.one
    cases d1
    exact ⟨_, rfl, k _ H _ S HLe.rfl a (.int _) w⟩
  · exact w.elim⟩
def pInt : List D → SH → Res := fun xs _ => match xs with
  | [.int i] => .val (.int i)
  | [.bl b] => .val (.int (if b then 1 else 0))
  | _ => .bad
theorem cd_int : CallD X (.type "int") pInt := ⟨_, call_int1, fun xs vs H S Q R a d w k => by
  unfold pInt at w
  split at w
  · obtain ⟨v, rfl, d1⟩ := d.one
    cases d1
    exact .inl ⟨_, rfl, k _ H _ S HLe.rfl a (.int _) w⟩
  · obtain ⟨v, rfl, d1⟩ := d.one
    cases d1
    exact .inr ⟨_, rfl, k _ H _ S HLe.rfl a (.int _) w⟩
  · exact w.elim⟩
def pMax2 : List D → SH → Res := fun xs _ => match xs with
  | [.int i, .int j] => .val (.int (if j > i then j else i))
  | _ => .bad
def pMin2 : List D → SH → Res := fun xs _ => match xs with
  | [.int i, .int j] => .val (.int (if j < i then j else i))
  | _ => .bad
theorem cd_max2 (hc : X.calm = true) : CallD X (.builtin "max") pMax2 := ⟨_, call_max2 hc, fun xs vs H S Q R a d w k => by
  unfold pMax2 at w
  split at w
  · obtain ⟨v, u, rfl, d1, d2⟩ := d.two
    cases d1
    cases d2
    exact ⟨_, _, rfl, k _ H _ S HLe.rfl a (.int _) w⟩
  · exact w.elim⟩
theorem cd_min2 (hc : X.calm = true) : CallD X (.builtin "min") pMin2 := ⟨_, call_min2 hc, fun xs vs H S Q R a d w k => by
  unfold pMin2 at w
  split at w
  · obtain ⟨v, u, rfl, d1, d2⟩ := d.two
    cases d1
    cases d2
    exact ⟨_, _, rfl, k _ H _ S HLe.rfl a (.int _) w⟩
  · exact w.elim⟩
def pList : List D → SH → Res := fun xs S => match xs with
  | [x] => (match itemsOf x S with
    | some l => .new (.lst l)
    | none => .bad)
  | _ => .bad
theorem cd_list : CallD X (.type "list") pList := ⟨_, call_list_of, fun xs vs H S Q R a d w k => by
  unfold pList at w
  split at w
  · obtain ⟨v, rfl, d1⟩ := d.one
    split at w
    · rename_i l e
      obtain ⟨p, vs, rfl, h1, r⟩ := items_ok a d1 e
      refine ⟨p, vs, rfl, h1, fun l' hl => ?_⟩
      exact k _ _ (.ref l') _ (HLe.new hl) (a.new hl ⟨_, upd_same, r.mono (HLe.new hl)⟩) (.ref l') (w l' (a.free hl))
    · exact w.elim
  · exact w.elim⟩
/-- tuple(x): as it lies -/
theorem call_tupleF : CallR X (.type "tuple") (fun xs H Q => ∃ p ys, xs = [.ref p] ∧ ((SqL X.K H p ys ∧ ∀ q o, H q = none → o.dict = none → Q (.ref q) (upd H q (.frz o (.tup ys)))) ∨ (SqT X.K H p ys ∧ Q (.ref p) H))) := by
  intro pins s σ H xs us Q I r h
  obtain ⟨p, ys, rfl, h⟩ := h
  rw [Vals.ref1 r]
  rcases h with ⟨hs, q⟩ | ⟨hs, q⟩
  · obtain ⟨its, rv, pl, hz⟩ := I.list hs
    refine call_tuple_list pl.isList (fun h' hk => ?_) (by rw [List.size_toArray, ← rv.length]; exact hz)
    have I1 : Inv X pins σ H { s with heap := h' } := I.kept (t' := s.toks) hk
    refine ⟨.ref h'.objs.size, _, I1.laid (t' := s.toks) (o := .frz { cls := .type "tuple", data := .seq its.toArray } (.tup ys)) (fun b o e => Heap.get?_push_of_some _ e) (Nat.le_refl _) ?_, rfl, q _ _ (I1.hok.fresh (Nat.le_refl _)) rfl⟩
    exact ⟨Heap.get?_push_size _ rfl, hz, its, rv, IsTup.new _ _⟩
  · obtain ⟨its, rv, pl, hz⟩ := I.tuple hs
    exact call_tuple_tup pl ⟨.ref p, H, I, rfl, q⟩
def pTuple : List D → SH → Res := fun xs S => match xs with
  | [.tup l] => .val (.tup l)
  | [x] => (match lstOf x S with
    | some l => .val (.tup l)
    | none => .bad)
  | _ => .bad
theorem lstOf_ok {K : PySem.W.Frag} {H : Hp} {S : SH} {y : D} {u : V} {l : List D} (a : Abs K H S) (d : Dt K H y u) (e : lstOf y S = some l) : ∃ p vs, u = .ref p ∧ SqL K H p vs ∧ DtL K H l vs := by
  unfold lstOf at e
  cases y with
  | fro l' =>
    cases e
    cases d with
    | fro h r => exact ⟨_, _, rfl, h.sq, r⟩
  | ref p =>
    cases d
    dsimp only at e
    split at e
    · rename_i l' q
      cases e
      obtain ⟨vs, h1, r⟩ := a p _ q
      exact ⟨p, vs, rfl, SqL.of h1, r⟩
    · cases e
  | _ => cases e
theorem cd_tuple : CallD X (.type "tuple") pTuple := ⟨_, call_tupleF, fun xs vs H S Q R a d w k => by
  unfold pTuple at w
  split at w
  · obtain ⟨v, rfl, d1⟩ := d.one
    obtain ⟨p, ys, rfl, h1, r⟩ := tupSame d1
    exact ⟨p, ys, rfl, .inr ⟨h1.sq, k _ H _ S HLe.rfl a d1 w⟩⟩
  · obtain ⟨v, rfl, d1⟩ := d.one
    split at w
    · rename_i l e
      obtain ⟨p, vs, rfl, h1, r⟩ := lstOf_ok a d1 e
      refine ⟨p, vs, rfl, .inl ⟨h1, fun q o hq hd => ?_⟩⟩
      exact k _ _ _ S (HLe.new hq) (a.hid hq) (.tup (tupAt_new hd) (r.mono (HLe.new hq))) w
    · exact w.elim
  · exact w.elim⟩
/-- ints of data -/
def D.ints : List D → Option (List Int)
  | [] => some []
  | .int i :: r => (D.ints r).map (i :: ·)
  | _ :: _ => none
theorem ints_eq : ∀ {l : List D} {ns : List Int}, D.ints l = some ns → l = ns.map D.int
  | [], _, e => by cases e; rfl
  | d :: r, ns, e => by
    cases d with
    | int i =>
      unfold D.ints at e
      cases q : D.ints r with
      | none => rw [q] at e; cases e
      | some ms => rw [q] at e; cases e; rw [ints_eq q]; rfl
    | _ => cases e
@[simp] theorem ints_map : ∀ ns : List Int, D.ints (ns.map D.int) = some ns
  | [] => rfl
  | n :: ns => by
    show (D.ints (ns.map D.int)).map (n :: ·) = _
    rw [ints_map ns]; rfl
def insI (a : Int) : List Int → List Int
  | [] => [a]
  | b :: l => if a ≤ b then a :: b :: l else b :: insI a l
def sortI : List Int → List Int
  | [] => []
  | a :: l => insI a (sortI l)
theorem insI_perm (a : Int) : ∀ l : List Int, (insI a l).Perm (a :: l)
  | [] => List.Perm.refl _
  | b :: l => by
    unfold insI
    split
    · exact List.Perm.refl _
    · exact ((insI_perm a l).cons b).trans (List.Perm.swap a b l)
theorem sortI_perm : ∀ ns : List Int, (sortI ns).Perm ns
  | [] => List.Perm.refl _
  | a :: l => (insI_perm a (sortI l)).trans ((sortI_perm l).cons a)
theorem insI_sorted (a : Int) : ∀ l : List Int, l.Pairwise (· ≤ ·) → (insI a l).Pairwise (· ≤ ·)
  | [], _ => List.pairwise_singleton _ _
  | b :: l, h => by
    unfold insI
    obtain ⟨h1, h2⟩ := List.pairwise_cons.mp h
    split
    · rename_i c
      refine List.pairwise_cons.mpr ⟨fun x hx => ?_, h⟩
      rcases List.mem_cons.mp hx with e | hx
      · rw [e]; exact c
      · exact Int.le_trans c (h1 x hx)
    · rename_i c
      refine List.pairwise_cons.mpr ⟨fun x hx => ?_, insI_sorted a l h2⟩
      rcases List.mem_cons.mp ((insI_perm a l).mem_iff.mp hx) with e | hx
      · rw [e]; omega
      · exact h1 x hx
theorem sortI_sorted : ∀ ns : List Int, (sortI ns).Pairwise (· ≤ ·)
  | [] => List.Pairwise.nil
  | a :: l => insI_sorted a _ (sortI_sorted l)
theorem sorted_unique : ∀ {l l' : List Int}, l.Perm l' → l.Pairwise (· ≤ ·) → l'.Pairwise (· ≤ ·) → l = l' := fun p h h' =>
  p.eq_of_pairwise (fun a b _ _ h1 h2 => Int.le_antisymm h1 h2) h h'
def pSorted : List D → SH → Res := fun xs S => match xs with
  | [x] => (match lstOf x S with
    | some l => (match D.ints l with
      | some ns => .new (.lst ((sortI ns).map D.int))
      | none => .bad)
    | none => .bad)
  | _ => .bad
theorem cd_sorted : CallD X (.builtin "sorted") pSorted := ⟨_, cr_sortedI, fun xs vs H S Q R a d w k => by
  unfold pSorted at w
  split at w
  · obtain ⟨v, rfl, d1⟩ := d.one
    split at w
    · rename_i l e
      obtain ⟨p, vs, rfl, h1, r⟩ := lstOf_ok a d1 e
      split at w
      · rename_i ns en
        rw [ints_eq en] at r
        rw [r.ints] at h1
        refine ⟨p, ns, rfl, h1, fun ns' q hp hs hq => ?_⟩
        have es : ns' = sortI ns := sorted_unique (hp.trans (sortI_perm ns).symm) hs (sortI_sorted ns)
        subst es
        exact k _ _ (.ref q) _ (HLe.new hq) (a.new hq ⟨_, upd_same, dtl_ints _⟩) (.ref q) (w q (a.free hq))
      · exact w.elim
    · exact w.elim
  · exact w.elim⟩
def pSum : List D → SH → Res := fun xs S => match xs with
  | [x] => (match lstOf x S with
    | some l => (match D.ints l with
      | some ns => .val (.int ns.sum)
      | none => .bad)
    | none => .bad)
  | _ => .bad
theorem cd_sum (hc : X.calm = true) : CallD X (.builtin "sum") pSum := ⟨_, cr_sum hc, fun xs vs H S Q R a d w k => by
  unfold pSum at w
  split at w
  · obtain ⟨v, rfl, d1⟩ := d.one
    split at w
    · rename_i l e
      obtain ⟨p, vs, rfl, h1, r⟩ := lstOf_ok a d1 e
      split at w
      · rename_i ns en
        rw [ints_eq en] at r
        rw [r.ints] at h1
        exact ⟨p, ns, rfl, h1, k _ H _ S HLe.rfl a (.int _) w⟩
      · exact w.elim
    · exact w.elim
  · exact w.elim⟩
/-- bools of data -/
def D.bls : List D → Option (List Bool)
  | [] => some []
  | .bl b :: r => (D.bls r).map (b :: ·)
  | _ :: _ => none
theorem bls_eq : ∀ {l : List D} {ns : List Bool}, D.bls l = some ns → l = ns.map D.bl
  | [], _, e => by cases e; rfl
  | d :: r, ns, e => by
    cases d with
    | bl i =>
      unfold D.bls at e
      cases q : D.bls r with
      | none => rw [q] at e; cases e
      | some ms => rw [q] at e; cases e; rw [bls_eq q]; rfl
    | _ => cases e
@[simp] theorem bls_map : ∀ ns : List Bool, D.bls (ns.map D.bl) = some ns
  | [] => rfl
  | n :: ns => by
    show (D.bls (ns.map D.bl)).map (n :: ·) = _
    rw [bls_map ns]; rfl
def pAll : List D → SH → Res := fun xs S => match xs with
  | [x] => (match lstOf x S with
    | some l => (match D.bls l with
      | some ns => .val (.bl (ns.all id))
      | none => .bad)
    | none => .bad)
  | _ => .bad
def pAny : List D → SH → Res := fun xs S => match xs with
  | [x] => (match lstOf x S with
    | some l => (match D.bls l with
      | some ns => .val (.bl (ns.any id))
      | none => .bad)
    | none => .bad)
  | _ => .bad
theorem cd_all (hc : X.calm = true) : CallD X (.builtin "all") pAll := ⟨_, cr_all hc, fun xs vs H S Q R a d w k => by
  unfold pAll at w
  split at w
  · obtain ⟨v, rfl, d1⟩ := d.one
    split at w
    · rename_i l e
      obtain ⟨p, vs, rfl, h1, r⟩ := lstOf_ok a d1 e
      split at w
      · rename_i ns en
        rw [bls_eq en] at r
        rw [r.bls] at h1
        exact ⟨p, ns, rfl, h1, k _ H _ S HLe.rfl a (.bl _) w⟩
      · exact w.elim
    · exact w.elim
  · exact w.elim⟩
theorem cd_any (hc : X.calm = true) : CallD X (.builtin "any") pAny := ⟨_, cr_any hc, fun xs vs H S Q R a d w k => by
  unfold pAny at w
  split at w
  · obtain ⟨v, rfl, d1⟩ := d.one
    split at w
    · rename_i l e
      obtain ⟨p, vs, rfl, h1, r⟩ := lstOf_ok a d1 e
      split at w
      · rename_i ns en
        rw [bls_eq en] at r
        rw [r.bls] at h1
        exact ⟨p, ns, rfl, h1, k _ H _ S HLe.rfl a (.bl _) w⟩
      · exact w.elim
    · exact w.elim
  · exact w.elim⟩
end
end DL

set_option Elab.async false
set_option linter.all false
set_option maxRecDepth 100000
set_option maxHeartbeats 1000000
namespace DL
open PySem PySem.Spec PyProof.Rows L2
section
variable {X : Cx} {a b c e e2 o : Expr} {es : List Expr} {ta tb tc te : DE} {t u : DT} {ts : DA} {pos p p2 p3 q : Pos} {st : Stmt} {rest : List Stmt} {s1 s2 : DS} {x : Str}

/-! ### isinstance -/
def tyD (x : D) (S : SH) : Option String := match x with
  | .non => some "NoneType"
  | .bl _ => some "bool"
  | .int _ => some "int"
  | .str _ => some "str"
  | .tup _ => some "tuple"
  | .fro _ => some "list"
  | .ref a => (match S a with
    | some (.lst _) => some "list"
    | none => none)
theorem tyD_ok {K : PySem.W.Frag} {H : Hp} {S : SH} {x : D} {v : V} {n : String} (a : Abs K H S) (d : Dt K H x v) (e : tyD x S = some n) : TyX K H v (.type n) := by
  cases d with
  | non => cases e; exact .base .non
  | bl b => cases e; exact .base (.bl b)
  | int i => cases e; exact .base (.int i)
  | str z => cases e; exact .base (.str z)
  | tup h r =>
    cases e
    rcases h with ⟨o, h1, _⟩ | ⟨o, _, _, h1, h2, _⟩
    · exact .fTuple h1
    · exact .kTuple h1 h2
  | fro h r =>
    cases e
    rcases h with ⟨o, h1⟩ | ⟨o, _, _, h1, h2, _⟩
    · exact .base (.frz h1)
    · exact .kList h1 h2
  | ref p =>
    unfold tyD at e
    dsimp only at e
    split at e
    · rename_i l q
      cases e
      obtain ⟨vs, h1, _⟩ := a p _ q
      exact .base (.lst h1)
    · cases e
def subTy (t c : String) : Bool := t == c || (t == "bool" && c == "int")
def tyNames : List String := ["NoneType", "bool", "int", "str", "tuple", "list", "dict"]
theorem kit_all : ∀ t ∈ tyNames, ∀ c ∈ tyNames, kitB t c = some (subTy t c) := by decide +kernel
theorem tyD_mem {x : D} {S : SH} {n : String} (e : tyD x S = some n) : n ∈ tyNames := by
  unfold tyD at e
  cases x <;> try (cases e; decide)
  dsimp only at e
  split at e <;> cases e
  decide
def isiAny (t : String) (cs : List String) : Bool := cs.any (subTy t)
def dIsi (cs : List String) (te : DE) : DE := fun E τ S Q => te E τ S fun d S1 => match tyD d S1 with
  | some t => Q (.bl (isiAny t cs)) S1
  | none => False
/-- the built-in classes' names, as the boot has them -/
def tyBoot (x : Str) (T : String) : Prop := bootBuiltins x = some (.type T) ∧ x ≠ "__name__" ∧ (x == ("__debug__" : Str)) = false
theorem se_isi {T : String} {x2 : Str} (hg : Gl X x) (hx : x = "isinstance") (hm : X.mg x = none) (hg2 : Gl X x2) (hm2 : X.mg x2 = none) (hT : tyBoot x2 T) (mT : T ∈ tyNames) (ha : SE X e te)
    (hs : starEach [e, .Name x2 p2] X.env = (false, eval e X.env) :: starEach [.Name x2 p2] X.env) (hs2 : starEach [.Name x2 p2] X.env = (false, eval (.Name x2 p2) X.env) :: starEach [] X.env)
    (hpl : (backTo pos (starEach [.Name x2 p2] X.env)).any (·.1) = false) : SE X (.Call (.Name x p) [e, .Name x2 p2] [] pos) (dIsi [T] te) := by
  subst hx
  intro ED H0 tk
  obtain ⟨ra, pa, ka⟩ := ha ED H0 tk
  refine ⟨_, pe_callB call_isi hg hm (by decide +kernel) (pa_cons pa (pa_cons (pe_bltn (v := .ty T) hg2 hm2 hT.1 rfl hT.2.1 hT.2.2) pa_nil hs2) hs) (by decide) (by decide) hs hpl, fun σ H τ S Q R r h k => ?_⟩
  refine ka σ H τ S _ _ r h fun v H' d S' m a' d' q => ?_
  split at q
  · rename_i n en
    refine ⟨v, .ty T, .type n, .type T, isiAny n [T], rfl, .ty T, tyD_ok a' d' en, ?_, k _ H' _ S' m a' (.bl _) q⟩
    rw [kit_ty (kit_all n (tyD_mem en) T mT)]
    unfold isiAny
    rw [List.any_cons, List.any_nil, Bool.or_false]
  · exact q.elim
theorem kitAny_ok {K : PySem.W.Frag} {n : String} (hn : n ∈ tyNames) : ∀ cs : List String, (∀ T ∈ cs, T ∈ tyNames) → PySem.W.kitAny K (.type n) (cs.map Value.type) = some (isiAny n cs)
  | [], _ => rfl
  | T :: cs, h => by
    have h1 := kit_ty (K := K) (kit_all n hn T (h T List.mem_cons_self))
    have ih := kitAny_ok (K := K) hn cs fun T' hT' => h T' (List.mem_cons_of_mem _ hT')
    unfold isiAny
    rw [List.any_cons]
    cases hb : subTy n T with
    | true => exact kitAny_cons h1 (fun z => by rw [hb] at z; cases z) (fun _ => by rw [Bool.true_or])
    | false => exact kitAny_cons h1 (fun _ => by rw [Bool.false_or]; exact ih) (fun z => by rw [hb] at z; cases z)
/-- the names of a tuple of classes -/
theorem cls_pair : ∀ cs : List String, Paired ClsV (cs.map V.ty) (cs.map Value.type)
  | [] => .nil
  | T :: cs => .cons (.ty T) (cls_pair cs)
theorem se_isi2 {T T2 : String} {x2 x3 : Str} {kt} (hg : Gl X x) (hx : x = "isinstance") (hm : X.mg x = none) (hg2 : Gl X x2) (hm2 : X.mg x2 = none) (hT : tyBoot x2 T) (mT : T ∈ tyNames) (hg3 : Gl X x3) (hm3 : X.mg x3 = none) (hT2 : tyBoot x3 T2) (mT2 : T2 ∈ tyNames) (ha : SE X e te)
    (hs : starEach [e, .Tuple [.Name x2 p2, .Name x3 p3] kt q] X.env = (false, eval e X.env) :: starEach [.Tuple [.Name x2 p2, .Name x3 p3] kt q] X.env) : SE X (.Call (.Name x p) [e, .Tuple [.Name x2 p2, .Name x3 p3] kt q] [] pos) (dIsi [T, T2] te) := by
  subst hx
  intro ED H0 tk
  obtain ⟨ra, pa, ka⟩ := ha ED H0 tk
  refine ⟨_, pe_callB call_isiT hg hm (by decide +kernel) (pa_cons pa (pa_cons (pe_tup (pa_cons (pe_bltn (v := .ty T) hg2 hm2 hT.1 rfl hT.2.1 hT.2.2) (pa_cons (pe_bltn (v := .ty T2) hg3 hm3 hT2.1 rfl hT2.2.1 hT2.2.2) pa_nil rfl) rfl)) pa_nil rfl) hs) (by decide) (by decide) hs rfl, fun σ H τ S Q R r h k => ?_⟩
  refine ka σ H τ S _ _ r h fun v H' d S' m a' d' q => ?_
  split at q
  · rename_i n en
    refine ⟨by show 2 ≤ sizeLine; decide, fun tp htp => ?_⟩
    have hl : HLe H' (upd H' tp (.tup [.ty T, .ty T2])) := HLe.new htp
    exact ⟨v, tp, [.ty T, .ty T2], .type n, [.type T, .type T2], isiAny n [T, T2], rfl, upd_same, cls_pair [T, T2], tyD_ok (a'.hid htp) (d'.mono hl) en, kitAny_ok (tyD_mem en) [T, T2] (fun T' h' => by
      rcases List.mem_cons.mp h' with z | h'
      · rw [z]; exact mT
      · rcases List.mem_cons.mp h' with z | h'
        · rw [z]; exact mT2
        · cases h'), k _ _ _ S' (m.trans hl) (a'.hid htp) (.bl _) q⟩
  · exact q.elim

/-! ### list(range(..)), tuple(range(..)) -/
def rgD (a b : Int) : List D := (List.range (b - a).toNat).map fun i => D.int (a + (i : Nat))
theorem dtl_rg {K : PySem.W.Frag} {H : Hp} (a b : Int) : DtL K H (rgD a b) (rgV a b) := by
  unfold rgD rgV
  generalize List.range (b - a).toNat = l
  induction l with
  | nil => exact .nil
  | cons i l ih => exact .cons (.int _) ih
/-- a range as an argument -/
abbrev DRg := EK → SDl → SH → (Int → Int → SH → Prop) → Prop
def SRg (X : Cx) (e : Expr) (t : DRg) : Prop := ∀ ED H0, Takes X (liftE X.K H0 ED) → ∃ tt, PRg X e tt ∧
  ∀ (σ : L2.St) (H : Hp) (τ : SDl) (S : SH) (Q : Int → Int → SH → Prop) (R : Int → Int → Hp → Prop), Rl X.K H0 H σ τ S → t ED τ S Q →
    (∀ i j H' S', HLe H H' → Abs X.K H' S' → Q i j S' → R i j H') → tt σ H R
def rg1 (te : DE) : DRg := fun E τ S Q => te E τ S fun d S1 => match d with
  | .int n => Q 0 n S1
  | _ => False
def rg2 (ta tb : DE) : DRg := fun E τ S Q => ta E τ S fun d S1 => tb E τ S1 fun d' S2 => match d, d' with
  | .int i, .int j => Q i j S2
  | _, _ => False
theorem srg_1 (hg : Gl X "range") (hm : X.mg "range" = none) (ha : SE X e te) (na : starEach [e] X.env = (false, eval e X.env) :: starEach [] X.env) : SRg X (.Call (.Name "range" p) [e] [] pos) (rg1 te) := by
  intro ED H0 tk
  obtain ⟨ra, pa, ka⟩ := ha ED H0 tk
  refine ⟨_, prg_1 hg hm pa na, fun σ H τ S Q R r h k => ?_⟩
  refine ka σ H τ S _ _ r h fun v H' d S' m a' d' q => ?_
  cases d with
  | int n => cases d'; exact ⟨n, rfl, k _ _ H' S' m a' q⟩
  | _ => exact q.elim
theorem srg_2 (hg : Gl X "range") (hm : X.mg "range" = none) (ha : SE X e ta) (hb : SE X e2 tb) (na : starEach [e, e2] X.env = (false, eval e X.env) :: starEach [e2] X.env)
    (nb : starEach [e2] X.env = (false, eval e2 X.env) :: starEach [] X.env) (hp : (backTo pos (starEach [e2] X.env)).any (·.1) = false) : SRg X (.Call (.Name "range" p) [e, e2] [] pos) (rg2 ta tb) := by
  intro ED H0 tk
  obtain ⟨ra, pa, ka⟩ := ha ED H0 tk
  obtain ⟨rb, pb, kb⟩ := hb ED H0 tk
  refine ⟨_, prg_2 hg hm pa pb na nb hp, fun σ H τ S Q R r h k => ?_⟩
  refine two ka kb r h fun v u H' x y S' m a' d1 d2 q => ?_
  cases x with
  | int i =>
    cases y with
    | int j => cases d1; cases d2; exact ⟨i, j, rfl, rfl, k _ _ H' S' m a' q⟩
    | _ => exact q.elim
  | _ => exact q.elim
def rgOk (a b : Int) : Prop := okR a ∧ okR b ∧ (b - a).toNat ≤ 2 ^ 24
theorem rgOk_of {a b : Int} (h : rgOk a b) : RgOk a b := ⟨h.1.1, h.1.2, h.2.1.1, h.2.1.2, h.2.2⟩
def dListRg (t : DRg) : DE := fun E τ S Q => t E τ S fun i j S1 => rgOk i j ∧ ∀ q, S1 q = none → Q (.ref q) (sup S1 q (.lst (rgD i j)))
def dTupRg (t : DRg) : DE := fun E τ S Q => t E τ S fun i j S1 => rgOk i j ∧ Q (.tup (rgD i j)) S1
theorem se_listRg {t : DRg} (hc : X.calm = true) (hg : Gl X "list") (hm : X.mg "list" = none) (he : SRg X e t) (na : starEach [e] X.env = (false, eval e X.env) :: starEach [] X.env) : SE X (.Call (.Name "list" p) [e] [] pos) (dListRg t) := by
  intro ED H0 tk
  obtain ⟨ra, pa, ka⟩ := he ED H0 tk
  refine ⟨_, pe_listRg hc hg hm pa na, fun σ H τ S Q R r h k => ?_⟩
  refine ka σ H τ S _ _ r h fun i j H' S' m a' q => ⟨rgOk_of q.1, fun p' hp => ?_⟩
  exact k _ _ (.ref p') _ (m.trans (HLe.new hp)) (a'.new hp ⟨_, upd_same, dtl_rg i j⟩) (.ref p') (q.2 p' (a'.free hp))
theorem pe_tupRgF {te : L2.St → Hp → (Int → Int → Hp → Prop) → Prop} (hc : X.calm = true) (hg : Gl X "tuple") (hm : X.mg "tuple" = none) (he : PRg X e te) (na : starEach [e] X.env = (false, eval e X.env) :: starEach [] X.env) :
    PE X (.Call (.Name "tuple" p) [e] [] pos) (fun σ H Q => te σ H fun a b H1 => RgOk a b ∧ ∀ q o, H1 q = none → o.dict = none → Q (.ref q) (upd H1 q (.frz o (.tup (rgV a b))))) := by
  refine ⟨fun pins s σ H Q I h => ?_⟩
  refine Call_ (ld_blt I hg hm boot_tuple (PyProof.Rows.callWith_type1 (args_cons (thn (he pins s σ H _ I h) fun x s1 ⟨r, a, b, t, u, v, H1, ex, hr, I1, ok, q⟩ => args_nil ?_) na) na))
  subst ex
  obtain ⟨b1, b2, b3, b4, b5⟩ := ok
  refine call_tuple_range (n := (b - a).toNat) (I1.ok.hd hc) hr (small_one b1 b2 b3 b4) (rangeSize_nat a b) b5 fun h' tk acc hk hi => ?_
  have I2 : Inv X pins σ H1 { s1 with heap := h', toks := tk } := I1.kept hk
  refine ⟨.ref h'.objs.size, _, I2.laid (t' := tk) (o := .frz { cls := .type "tuple", data := .seq acc } (.tup (rgV a b))) (fun c o e => Heap.get?_push_of_some _ e) (Nat.le_refl _) ?_, rfl, q _ _ (I2.hok.fresh (Nat.le_refl _)) rfl⟩
  refine ⟨Heap.get?_push_size _ rfl, ?_, acc.toList, vals_rg hi, ?_⟩
  · rw [rgV_length, sizeLine_eq]; omega
  · rw [Array.toArray_toList]; exact IsTup.new _ _
theorem se_tupRg {t : DRg} (hc : X.calm = true) (hg : Gl X "tuple") (hm : X.mg "tuple" = none) (he : SRg X e t) (na : starEach [e] X.env = (false, eval e X.env) :: starEach [] X.env) : SE X (.Call (.Name "tuple" p) [e] [] pos) (dTupRg t) := by
  intro ED H0 tk
  obtain ⟨ra, pa, ka⟩ := he ED H0 tk
  refine ⟨_, pe_tupRgF hc hg hm pa na, fun σ H τ S Q R r h k => ?_⟩
  refine ka σ H τ S _ _ r h fun i j H' S' m a' q => ⟨rgOk_of q.1, fun p' o hp hd => ?_⟩
  exact k _ _ _ S' (m.trans (HLe.new hp)) (a'.hid hp) (.tup (tupAt_new hd) (dtl_rg i j)) q.2

/-! ### sorted(set(t)), t a tuple of ints -/
def sortS (ns : List Int) : List Int := (sortI ns).eraseDups
theorem nodup_eraseDups : ∀ (n : Nat) (l : List Int), l.length ≤ n → l.eraseDups.Nodup
  | _, [], _ => by simp
  | 0, _ :: _, h => by simp at h
  | n + 1, a :: l, h => by
    rw [List.eraseDups_cons, List.nodup_cons]
    constructor
    · rw [List.mem_eraseDups]
      simp
    · refine nodup_eraseDups n _ ?_
      have := List.length_filter_le (fun b => !b == a) l
      simp at h
      omega
theorem sub_eraseDups : ∀ (n : Nat) (l : List Int), l.length ≤ n → l.eraseDups.Sublist l
  | _, [], _ => by simp
  | 0, _ :: _, h => by simp at h
  | n + 1, a :: l, h => by
    rw [List.eraseDups_cons]
    refine List.Sublist.cons_cons a ?_
    have hl := List.length_filter_le (fun b => !b == a) l
    simp at h
    exact (sub_eraseDups n _ (by omega)).trans List.filter_sublist
theorem sortS_lt (ns : List Int) : (sortS ns).Pairwise (· < ·) := by
  have h1 : (sortS ns).Pairwise (· ≤ ·) := (sortI_sorted ns).sublist (sub_eraseDups _ _ (Nat.le_refl _))
  have h2 : (sortS ns).Nodup := nodup_eraseDups _ _ (Nat.le_refl _)
  exact (h1.and h2).imp fun ⟨x, y⟩ => by omega
theorem mem_sortS {k : Int} {ns : List Int} : k ∈ sortS ns ↔ k ∈ ns := by
  unfold sortS
  rw [List.mem_eraseDups, (sortI_perm ns).mem_iff]
theorem lt_unique : ∀ {l l' : List Int}, (∀ k, k ∈ l ↔ k ∈ l') → l.Pairwise (· < ·) → l'.Pairwise (· < ·) → l = l' := fun h p p' => by
  have n1 := p.imp (S := (· ≠ ·)) fun h => by omega
  have n2 := p'.imp (S := (· ≠ ·)) fun h => by omega
  exact sorted_unique ((List.perm_ext_iff_of_nodup n1 n2).mpr h) (p.imp fun h => by omega) (p'.imp fun h => by omega)
def tSortSet (K : PySem.W.Frag) (ta : TE) : TE := fun σ H Q => ta σ H fun x H1 => ∃ (l : Addr) (ns : List Int), x = .ref l ∧ SqT K H1 l (ns.map V.int) ∧ ns.length < 64 ∧ ∀ r p, H1 r = none → p ≠ r → H1 p = none → Q (.ref p) (upd H1 p (.lst ((sortS ns).map V.int)))
theorem pe_sortSetT {ta : TE} (hc : X.calm = true) (hg : Gl X "sorted") (hm : X.mg "sorted" = none) (hg2 : Gl X "set") (hm2 : X.mg "set" = none) (ha : PE X a ta)
    (na : starEach [a] X.env = (false, eval a X.env) :: starEach [] X.env) : PE X (.Call (.Name "sorted" p) [.Call (.Name "set" p2) [a] [] q] [] pos) (tSortSet X.K ta) := by
  refine ⟨fun pins s σ H Q I h => ?_⟩
  refine Call_ (ld_blt I hg hm (show bootBuiltins "sorted" = some (.builtin "sorted") by decide +kernel) ?_)
  refine PyProof.Rows.callWith_builtin1 (PyProof.Rows.args_cons ?_ rfl) rfl rfl
  refine Call_ (ld_blt I hg2 hm2 boot_set ?_)
  refine PyProof.Rows.callWith_type1 (PyProof.Rows.args_cons (thn (ha.run pins s σ H _ I h) fun v s1 ⟨x, H1, I1, r1, q1⟩ => PyProof.Rows.args_nil ?_) na) na rfl
  obtain ⟨l, ns, rfl, hq, hl, q1⟩ := q1
  cases r1
  obtain ⟨its, r, pl, hz⟩ := I1.tuple hq
  refine call_set_tupI ns (I1.ok.hd hc) (show s1.heap.IsTuple l its.toArray from pl) (by simpa using r.ints) (by unfold scanBound; omega) fun h' tk c hS hcl hk => ?_
  refine PyProof.Rows.args_nil ?_
  have hf : H1 s1.heap.objs.size = none := I1.hok.fresh (Nat.le_refl _)
  have I2 : Inv X pins σ (upd H1 s1.heap.objs.size (SetO X.w s1.heap.objs.size (fun j => decide (j ∈ ns)) c)) { s1 with heap := h', toks := tk } := I1.laid hk (Nat.le_refl _) (setO_new hS)
  have I0 : Inv X pins σ H1 { s1 with heap := h', toks := tk } := I1.kept hk
  have R := hS
  refine sorted_set R (I2.ok.hd hc) (by omega) fun s' p out c' ns' k g o hp hg hi hs hm hl' => ?_
  have hlen : (ns'.map V.int).length ≤ sizeLine := by rw [List.length_map, hl', sizeLine_eq]; omega
  have hn : H1 p = none := I0.hok.fresh hp
  have es : ns' = sortS ns := lt_unique (fun k => by rw [mem_sortS, hm k, decide_eq_true_eq]) hs (sortS_lt ns)
  have J : Inv X pins σ (upd H1 p (.lst (ns'.map V.int))) { ({ s1 with heap := h', toks := tk } : Shared) with heap := s'.heap, gens := s'.gens, drawn := s'.drawn, toks := s'.toks } :=
    I0.call (ch := []) (Un.laid k hp hn) (I0.hok.laid k hp ⟨hlen, out.toList, c', vals_of_ints hi, hg⟩) (by rw [g]; exact I0.bare) (fun _ z => nomatch z)
  have e : s' = { ({ s1 with heap := h', toks := tk } : Shared) with heap := s'.heap, gens := s'.gens, drawn := s'.drawn, toks := s'.toks } := by
    cases s'
    cases s1
    cases o
    rfl
  rw [e]
  subst es
  refine ⟨.ref p, _, J, rfl, q1 s1.heap.objs.size p hf ?_ hn⟩
  have : s1.heap.objs.size < h'.objs.size := by
    obtain ⟨o, _, _, _, ho, _⟩ := hS
    exact Heap.lt_size ho
  exact Nat.ne_of_gt (Nat.lt_of_lt_of_le this hp)
def dSortSet (te : DE) : DE := fun E τ S Q => te E τ S fun d S1 => match d with
  | .tup l => (match D.ints l with
    | some ns => ns.length < 64 ∧ ∀ p, S1 p = none → Q (.ref p) (sup S1 p (.lst ((sortS ns).map D.int)))
    | none => False)
  | _ => False
theorem se_sortSetT (hc : X.calm = true) (hg : Gl X "sorted") (hm : X.mg "sorted" = none) (hg2 : Gl X "set") (hm2 : X.mg "set" = none) (ha : SE X a ta)
    (na : starEach [a] X.env = (false, eval a X.env) :: starEach [] X.env) : SE X (.Call (.Name "sorted" p) [.Call (.Name "set" p2) [a] [] q] [] pos) (dSortSet ta) := by
  intro ED H0 tk
  obtain ⟨ra, pa, ka⟩ := ha ED H0 tk
  refine ⟨_, pe_sortSetT hc hg hm hg2 hm2 pa na, fun σ H τ S Q R r h k => ?_⟩
  refine ka σ H τ S _ _ r h fun v H' d S' m a' d' q => ?_
  cases d with
  | tup l =>
    obtain ⟨pp, xs, rfl, h1, r1⟩ := tupSame d'
    dsimp only at q
    split at q
    · rename_i ns en
      rw [ints_eq en] at r1
      rw [r1.ints] at h1
      refine ⟨pp, ns, rfl, h1.sq, q.1, fun _ p' _ _ hp => ?_⟩
      exact k _ _ (.ref p') _ (m.trans (HLe.new hp)) (a'.new hp ⟨_, upd_same, dtl_ints _⟩) (.ref p') (q.2 p' (a'.free hp))
    · exact q.elim
  | _ => exact q.elim

/-! ### methods of built-in types -/
def MtD (X : Cx) (id : String) (pr : D → List D → SH → Res) : Prop := ∃ r : V → List V → Hp → VK → Prop, MtR X id r ∧
  ∀ (x : D) (xs : List D) (v : V) (vs : List V) (H : Hp) (S : SH) (Q : QE) (R : VK), Abs X.K H S → Dt X.K H x v → DtL X.K H xs vs → resW (pr x xs S) S Q → Cont X.K H Q R → r v vs H R
def tyIs (T : String) (x : D) (S : SH) : Bool := match x with
  | .str _ => T == "str"
  | .fro _ => T == "list"
  | .ref a => (match S a with
    | some (.lst _) => T == "list"
    | none => false)
  | _ => false
theorem tyIs_ok {K : PySem.W.Frag} {H : Hp} {S : SH} {x : D} {v : V} {T : String} (a : Abs K H S) (d : Dt K H x v) (e : tyIs T x S = true) : tyV K T v H := by
  cases d with
  | str z => exact eq_of_beq e
  | fro h r => exact .inl ⟨eq_of_beq e, _, h.sq⟩
  | ref p =>
    unfold tyIs at e
    dsimp only at e
    split at e
    · rename_i l q
      obtain ⟨vs, h1, _⟩ := a p _ q
      exact .inl ⟨eq_of_beq e, vs, SqL.of h1⟩
    · cases e
  | _ => cases e
def dMeth (T : String) (pr : D → List D → SH → Res) (te : DE) (ts : DA) : DE := fun E τ S Q => te E τ S fun x S1 => tyIs T x S1 = true ∧ ts E τ S1 fun xs S2 => resW (pr x xs S2) S2 Q
theorem se_meth {name : Str} {apos cpos : Pos} {T id : String} {pr : D → List D → SH → Res} (pl : PlainAttrs T) (slot : Slot T name id) (hty : typeOf (.builtin id) = pure (.type "method_descriptor")) (hm : MtD X id pr) (ho : SE X o te) (ha : SA X (e :: es) ts)
    (hbase : attributeBase o name X.env (eval o X.env) = eval o X.env)
    (hfew : ((backTo cpos (starEach (e :: es) X.env)).all (fun x => !x.1) && (backToKw cpos (keywordEach [] X.env)).all (fun x => x.1.isSome)
      && decide ((e :: es).length + ([] : List Keyword).length + (if ([] : List Keyword).isEmpty then 0 else 1) < 30)) = true)
    (hline : (apos.endLine == cpos.line) = true) (hs : starEach (e :: es) X.env = (false, eval e X.env) :: starEach es X.env) (hplain : (backTo cpos (starEach es X.env)).any (·.1) = false) :
    SE X (.Call (.Attribute o name apos) (e :: es) [] cpos) (dMeth T pr te ts) := by
  intro ED H0 tk
  obtain ⟨ra, pa, ka⟩ := ho ED H0 tk
  obtain ⟨rb, pb, kb⟩ := ha ED H0 tk
  obtain ⟨r1, o1, o2⟩ := hm
  refine ⟨_, pe_bm pl slot hty o1 pa pb hbase hfew hline hs hplain, fun σ H τ S Q R r h k => ?_⟩
  refine ka σ H τ S _ _ r h fun v H1 d S1 m1 a1 d1 q1 => ⟨tyIs_ok a1 d1 q1.1, ?_⟩
  refine kb σ H1 τ S1 _ _ (r.mono m1 a1) q1.2 fun vs H2 ds S2 m2 a2 d2 q2 => ?_
  exact o2 d ds v vs H2 S2 Q R a2 (d1.mono m2) d2 q2 fun v' H'' d' S'' m' => k v' H'' d' S'' ((m1.trans m2).trans m')
theorem se_meth0 {name : Str} {apos cpos : Pos} {T id : String} {pr : D → List D → SH → Res} (pl : PlainAttrs T) (slot : Slot T name id) (hty : typeOf (.builtin id) = pure (.type "method_descriptor")) (hm : MtD X id pr) (ho : SE X o te)
    (hbase : attributeBase o name X.env (eval o X.env) = eval o X.env) (hline : (apos.endLine == cpos.line) = true) : SE X (.Call (.Attribute o name apos) [] [] cpos) (dMeth T pr te dNil) := by
  intro ED H0 tk
  obtain ⟨ra, pa, ka⟩ := ho ED H0 tk
  obtain ⟨r1, o1, o2⟩ := hm
  refine ⟨_, pe_bm0 pl slot hty o1 pa hbase hline, fun σ H τ S Q R r h k => ?_⟩
  refine ka σ H τ S _ _ r h fun v H1 d S1 m1 a1 d1 q1 => ⟨tyIs_ok a1 d1 q1.1, ?_⟩
  exact o2 d [] v [] H1 S1 Q R a1 d1 .nil q1.2 fun v' H'' d' S'' m' => k v' H'' d' S'' (m1.trans m')
def pAppend : D → List D → SH → Res := fun x xs S => match x, xs, lstAt S x with
  | .ref p, [d], some l => if l.length < sizeLine then .put .non p (.lst (l ++ [d])) else .bad
  | _, _, _ => .bad
theorem md_append : MtD X "list.append" pAppend := ⟨_, mt_append, fun x xs v vs H S Q R a d ds w k => by
  unfold pAppend at w
  split at w
  · rename_i pp y l e
    obtain ⟨p', us, e1, rfl, s1, h1, r1⟩ := lstAt_ok a d e
    cases e1
    obtain ⟨u, rfl, du⟩ := ds.one
    split at w
    · rename_i c
      have mu : HLe H (upd H pp (.lst (us ++ [u]))) := HLe.put h1 fun _ _ _ z => by cases z
      exact ⟨pp, us, u, rfl, rfl, h1, by rw [← r1.length]; exact c, k _ _ _ _ mu (a.put mu ⟨_, upd_same, (r1.append (.cons du .nil)).mono mu⟩) .non w⟩
    · exact w.elim
  · exact w.elim⟩
def pExtend : D → List D → SH → Res := fun x xs S => match x, xs with
  | .ref p, [y] => (match lstAt S x, lstAt S y with
    | some l, some l' => if l.length + l'.length ≤ sizeLine then .put .non p (.lst (l ++ l')) else .bad
    | _, _ => .bad)
  | _, _ => .bad
theorem md_extend : MtD X "list.extend" pExtend := ⟨_, mt_extend, fun x xs v vs H S Q R a d ds w k => by
  unfold pExtend at w
  split at w
  · rename_i pp y
    obtain ⟨u, rfl, du⟩ := ds.one
    split at w
    · rename_i l l' e e'
      obtain ⟨p', us, e1, rfl, s1, h1, r1⟩ := lstAt_ok a d e
      cases e1
      obtain ⟨p'', us', rfl, rfl, s2, h2, r2⟩ := lstAt_ok a du e'
      split at w
      · rename_i c
        have mu : HLe H (upd H pp (.lst (us ++ us'))) := HLe.put h1 fun _ _ _ z => by cases z
        exact ⟨pp, p'', us, us', rfl, rfl, h1, h2, by rw [← r1.length, ← r2.length]; exact c, k _ _ _ _ mu (a.put mu ⟨_, upd_same, (r1.append r2).mono mu⟩) .non w⟩
      · exact w.elim
    · exact w.elim
  · exact w.elim⟩
def pPop : D → List D → SH → Res := fun x xs S => match x, lstAt S x with
  | .ref p, some l => (match xs with
    | [] => (match l[l.length - 1]? with
      | some d => .put d p (.lst l.dropLast)
      | none => .bad)
    | [.int i] => if decide (-(2 ^ 63) ≤ i) && decide (i < 2 ^ 63) then (match ixN l.length i with
      | some j => (match l[j]? with
        | some d => .put d p (.lst (l.eraseIdx j))
        | none => .bad)
      | none => .bad) else .bad
    | _ => .bad)
  | _, _ => .bad
theorem DtL.dropLast {K : PySem.W.Frag} {H : Hp} {l : List D} {vs : List V} (h : DtL K H l vs) : DtL K H l.dropLast vs.dropLast := by
  rw [List.dropLast_eq_take, List.dropLast_eq_take, h.length]
  exact h.take _
theorem md_pop : MtD X "list.pop" pPop := ⟨_, MtR.or (X := X) mt_pop mt_popAt, fun x xs v vs H S Q R a d ds w k => by
  unfold pPop at w
  split at w
  · rename_i pp l e
    obtain ⟨p', us, e1, rfl, s1, h1, r1⟩ := lstAt_ok a d e
    cases e1
    split at w
    · cases ds
      split at w
      · rename_i z ez
        obtain ⟨z', hz, dz⟩ := r1.get ez
        have mu : HLe H (upd H pp (.lst us.dropLast)) := HLe.put h1 fun _ _ _ z => by cases z
        exact .inl ⟨pp, us, z', rfl, rfl, h1, by rw [← r1.length]; exact hz, k _ _ _ _ mu (a.put mu ⟨_, upd_same, r1.dropLast.mono mu⟩) (dz.mono mu) w⟩
      · exact w.elim
    · rename_i i
      obtain ⟨u, rfl, du⟩ := ds.one
      cases du
      split at w
      · rename_i c
        rw [Bool.and_eq_true, decide_eq_true_eq, decide_eq_true_eq] at c
        split at w
        · rename_i j hj
          split at w
          · rename_i z ez
            obtain ⟨z', hz, dz⟩ := r1.get ez
            have mu : HLe H (upd H pp (.lst (us.eraseIdx j))) := HLe.put h1 fun _ _ _ z => by cases z
            rw [r1.length] at hj
            exact .inr ⟨pp, us, i, j, z', rfl, rfl, h1, c.1, c.2, (ixN_seq hj).1, hz, k _ _ _ _ mu (a.put mu ⟨_, upd_same, (r1.eraseIdx j).mono mu⟩) (dz.mono mu) w⟩
          · exact w.elim
        · exact w.elim
      · exact w.elim
    · exact w.elim
  · exact w.elim⟩
/-- the first place of an int -/
def pRemove : D → List D → SH → Res := fun x xs S => match x, xs, lstAt S x with
  | .ref p, [.int k], some l => (match D.ints l with
    | some ns => if k ∈ ns then .put .non p (.lst ((ns.erase k).map D.int)) else .bad
    | none => .bad)
  | _, _, _ => .bad
theorem erase_idx : ∀ (ns : List Int) (k : Int), k ∈ ns → ∃ j, ns[j]? = some k ∧ (∀ m : Nat, m < j → ns[m]? ≠ some k) ∧ ns.eraseIdx j = ns.erase k
  | [], k, h => by cases h
  | n :: ns, k, h => by
    by_cases e : n = k
    · subst e
      exact ⟨0, rfl, fun m hm => by omega, by simp⟩
    · have h' : k ∈ ns := by
        rcases List.mem_cons.mp h with z | z
        · exact absurd z.symm e
        · exact z
      obtain ⟨j, h1, h2, h3⟩ := erase_idx ns k h'
      refine ⟨j + 1, by simpa using h1, fun m hm => ?_, ?_⟩
      · cases m with
        | zero => simp [e]
        | succ m => simpa using h2 m (by omega)
      · rw [List.eraseIdx_cons_succ, h3, List.erase_cons_tail (by simpa using e)]
theorem md_remove : MtD X "list.remove" pRemove := ⟨_, mt_remove, fun x xs v vs H S Q R a d ds w k => by
  unfold pRemove at w
  split at w
  · rename_i pp n l e
    obtain ⟨p', us, e1, rfl, s1, h1, r1⟩ := lstAt_ok a d e
    cases e1
    obtain ⟨u, rfl, du⟩ := ds.one
    cases du
    split at w
    · rename_i ns en
      rw [ints_eq en] at r1
      rw [r1.ints] at h1
      split at w
      · rename_i hin
        obtain ⟨j, g1, g2, g3⟩ := erase_idx ns n hin
        have mu : HLe H (upd H pp (.lst ((ns.eraseIdx j).map V.int))) := HLe.put h1 fun _ _ _ z => by cases z
        refine ⟨pp, ns, n, j, rfl, rfl, h1, g1, g2, k _ _ .non _ mu (a.put mu ⟨_, upd_same, ?_⟩) .non w⟩
        rw [g3]
        exact dtl_ints _
      · exact w.elim
    · exact w.elim
  · exact w.elim⟩
/-- the first place of a flat thing -/
def idxF (x : D) : List D → Option Nat
  | [] => none
  | y :: ys => if eqF y x then some 0 else (idxF x ys).map (· + 1)
def pIndex : D → List D → SH → Res := fun x xs S => match xs, lstOf x S with
  | [y], some l => if y.flat && l.all D.flat then (match idxF y l with
    | some j => .val (.int (j : Nat))
    | none => .bad) else .bad
  | _, _ => .bad
theorem idxF_ok : ∀ {x : D} {l : List D} {j : Nat}, idxF x l = some j → (∃ z, l[j]? = some z ∧ eqF z x = true) ∧ ∀ (m : Nat) (z : D), m < j → l[m]? = some z → eqF z x = false
  | x, [], j, e => by cases e
  | x, y :: ys, j, e => by
    unfold idxF at e
    by_cases h : eqF y x = true
    · rw [if_pos h] at e
      cases e
      exact ⟨⟨y, rfl, h⟩, fun m z hm => by omega⟩
    · rw [if_neg h] at e
      cases q : idxF x ys with
      | none => rw [q] at e; cases e
      | some i =>
        rw [q] at e
        cases e
        obtain ⟨⟨z, h1, h2⟩, h3⟩ := idxF_ok q
        refine ⟨⟨z, by simpa using h1, h2⟩, fun m z' hm hz => ?_⟩
        cases m with
        | zero => simp at hz; subst hz; simpa using h
        | succ m => exact h3 m z' (by simp at hm; omega) (by simpa using hz)
theorem md_index : MtD X "list.index" pIndex := ⟨_, mt_index, fun x xs v vs H S Q R a d ds w k => by
  unfold pIndex at w
  split at w
  · rename_i y l e
    obtain ⟨p', us, rfl, h1, r1⟩ := lstOf_ok a d e
    obtain ⟨u, rfl, du⟩ := ds.one
    split at w
    · rename_i c
      rw [Bool.and_eq_true] at c
      split at w
      · rename_i j ej
        obtain ⟨⟨z, g1, g2⟩, g3⟩ := idxF_ok ej
        obtain ⟨z', f1, dz⟩ := r1.get g1
        have fl := List.all_eq_true.mp c.2
        have fz := fl z (List.mem_of_getElem? g1)
        refine ⟨p', us, u, j, z', rfl, rfl, h1, flat_V c.1 du, flats_V c.2 r1, f1, by rw [eqF_V fz c.1 dz du]; exact g2, fun m w' hm hw => ?_, k _ H _ S HLe.rfl a (.int _) w⟩
        obtain ⟨y', g4, g5⟩ := r1.getV hw
        rw [eqF_V (fl y' (List.mem_of_getElem? g4)) c.1 g5 du]
        exact g3 m y' hm g4
      · exact w.elim
    · exact w.elim
  · exact w.elim⟩
def pCount : D → List D → SH → Res := fun x xs S => match xs, lstOf x S with
  | [.int n], some l => (match D.ints l with
    | some ns => .val (.int (ns.count n : Nat))
    | none => .bad)
  | _, _ => .bad
theorem md_count : MtD X "list.count" pCount := ⟨_, mt_lcount, fun x xs v vs H S Q R a d ds w k => by
  unfold pCount at w
  split at w
  · rename_i n l e
    obtain ⟨p', us, rfl, h1, r1⟩ := lstOf_ok a d e
    obtain ⟨u, rfl, du⟩ := ds.one
    cases du
    split at w
    · rename_i ns en
      rw [ints_eq en] at r1
      rw [r1.ints] at h1
      exact ⟨p', ns, n, rfl, rfl, h1, k _ H _ S HLe.rfl a (.int _) w⟩
    · exact w.elim
  · exact w.elim⟩
def pReverse : D → List D → SH → Res := fun x xs S => match x, xs, lstAt S x with
  | .ref p, [], some l => .put .non p (.lst l.reverse)
  | _, _, _ => .bad
theorem md_reverse : MtD X "list.reverse" pReverse := ⟨_, mt_reverse, fun x xs v vs H S Q R a d ds w k => by
  unfold pReverse at w
  split at w
  · rename_i pp l e
    obtain ⟨p', us, e1, rfl, s1, h1, r1⟩ := lstAt_ok a d e
    cases e1
    cases ds
    have mu : HLe H (upd H pp (.lst us.reverse)) := HLe.put h1 fun _ _ _ z => by cases z
    exact ⟨pp, us, rfl, rfl, h1, k _ _ _ _ mu (a.put mu ⟨_, upd_same, r1.reverse.mono mu⟩) .non w⟩
  · exact w.elim⟩
end
end DL

set_option Elab.async false
set_option linter.all false
set_option maxRecDepth 100000
set_option maxHeartbeats 4000000
namespace DL
open PySem PySem.Spec PyProof.Rows L2

/-! ### looks at the text -/
def notStar : Expr → Bool
  | .Starred .. => false
  | _ => true
theorem star_ok {e : Expr} {es : List Expr} {env : Env} (h : notStar e = true) : starEach (e :: es) env = (false, eval e env) :: starEach es env := by
  cases e <;> first | rfl | cases h
theorem back_any {env : Env} {pos : Pos} : ∀ {es : List Expr}, es.all notStar = true → (backTo pos (starEach es env)).any (·.1) = false
  | [], _ => rfl
  | e :: es, h => by
    rw [List.all_cons, Bool.and_eq_true] at h
    rw [star_ok h.1]
    show (false || (backTo pos (starEach es env)).any (·.1)) = false
    rw [Bool.false_or]
    exact back_any h.2
theorem back_all {env : Env} {pos : Pos} : ∀ {es : List Expr}, es.all notStar = true → (backTo pos (starEach es env)).all (fun x => !x.1) = true
  | [], _ => rfl
  | e :: es, h => by
    rw [List.all_cons, Bool.and_eq_true] at h
    rw [star_ok h.1]
    show ((!false) && (backTo pos (starEach es env)).all (fun x => !x.1)) = true
    rw [back_all h.2]
    rfl
def notCall0 : Expr → Bool
  | .Call (.Name _ _) [] [] _ => false
  | _ => true
theorem base_ok {o : Expr} {f : Str} {env : Env} (h : notCall0 o = true) : attributeBase o f env (eval o env) = eval o env := by
  unfold attributeBase
  split
  · cases h
  · rfl
def plainTest : Expr → Bool
  | .UnaryOp .. => false
  | .BoolOp .. => false
  | .IfExp .. => false
  | .Compare .. => false
  | _ => true
theorem plain_ok {e : Expr} {env : Env} (h : plainTest e = true) : ∀ whole, isTrue e env whole = (do let v ← whole; standAt e.pos; holding [v] (truthy v)) := by
  intro whole
  cases e <;> first | rfl | cases h
def notSet : Expr → Bool
  | .Set .. => false
  | _ => true
theorem fold_ok {e : Expr} {env : Env} (h : notSet e = true) : ∀ x, foldedSetIterable e env x = pure x := by
  intro x
  cases e <;> first | rfl | cases h
theorem mark_ok {op : CmpOp} {e : Expr} (h : notSet e = true) : behindInMarks op e = false := by
  cases e <;> first | rfl | cases h
theorem marks_ok {op op' : CmpOp} {a b : Expr} (h : notSet b = true) : lastMarks [op, op'] [a, b] = false := by
  show lastMarks [op'] [b] = false
  exact mark_ok h
def notSlice : Expr → Bool
  | .Slice .. => false
  | _ => true
theorem ix_ok {b : Expr} (h : notSlice b = true) : PlainIx b := by
  intro o i
  cases b <;> first | rfl | cases h
theorem sub_ok {a b : Expr} {pos : Pos} {env : Env} (h : notSlice b = true) : ∀ v, assign (.Subscript a b pos) env v = (do
      let ov ← holding [v] (eval a env)
      let iv ← holding [v, ov] (eval b env)
      standAt pos
      holding [v, ov, iv] (setItem ov iv v)
      release [v, ov, iv] []) := by
  intro v
  cases b <;> first | rfl | cases h
def notComp : Expr → Bool
  | .ListComp .. => false
  | .SetComp .. => false
  | .DictComp .. => false
  | _ => true
theorem swaps_ok {e : Expr} {t : Option Expr} {l : Nat} {env : Env} (h : notComp e = true) : swapsWith e t l env = pure false := by
  cases e <;> first | rfl | cases h
def notName : Expr → Bool
  | .Name .. => false
  | _ => true
theorem sole_ok {e t : Expr} {l : Nat} {env : Env} (h : notName t = true) : swapsWithSole [t] e l env = pure false := by
  show swapsWith e (some t) l env = pure false
  unfold swapsWith
  split
  · cases t <;> first | rfl | cases h
  · rfl
theorem asg_len {env : Env} : ∀ {es : List Expr}, es.all notStar = true → (assignEach es env).length = es.length ∧ (assignEach es env).findIdx? (·.1) = none
  | [], _ => ⟨rfl, rfl⟩
  | e :: es, h => by
    rw [List.all_cons, Bool.and_eq_true] at h
    obtain ⟨h1, h2⟩ := asg_len (env := env) h.2
    have q : assignEach (e :: es) env = (false, assign e env) :: assignEach es env := by
      cases e <;> first | rfl | cases h.1
    rw [q]
    refine ⟨congrArg Nat.succ h1, ?_⟩
    rw [List.findIdx?_cons, h2]
    rfl
theorem asg_map {e : Expr} {es : List Expr} {env : Env} (h : notStar e = true) : (assignEach (e :: es) env).map (·.2) = assign e env :: (assignEach es env).map (·.2) := by
  cases e <;> first | rfl | cases h
theorem swapped_none {t e : Expr} {env : Env} (h : (match e with | .Tuple .. => false | _ => true) = true) : swappedStores [t] e env = pure none := by
  unfold swappedStores
  split
  · rename_i q
    cases e <;> first | ((cases t <;> cases q); done) | (cases h; done)
  · rfl
theorem swapped_none' {t e : Expr} {env : Env} (h : (match t with | .Tuple .. => false | .List .. => false | _ => true) = true) : swappedStores [t] e env = pure none := by
  unfold swappedStores
  split
  · rename_i q
    cases t <;> first | ((cases e <;> cases q); done) | (cases h; done)
  · rfl

/-! ### what is known of the text -/
structure Inf where
  N : List Str
  sc : Scope
  fn : Str → Bool
  fns : List (Str × DSp)
  free : List Str
  consts : List (Str × D)
  excs : List (Str × Addr)
  /-- not in an except suite -/
  calm : Bool
  /-- a def's own statements -/
  stm : Bool
  /-- in a suite: the error's name, the error, its class -/
  exc : Option (Str × Addr × Value)
  kt : Value → Value → Option Bool
  xm : Value → Value → Option Bool
def idx (N : List Str) (x : Str) : Option Nat := N.findIdx? (· == x)
theorem idx_ok {N : List Str} {x : Str} {i : Nat} (h : idx N x = some i) : N[i]? = some x := by
  unfold idx at h
  obtain ⟨h1, h2, _⟩ := List.findIdx?_eq_some_iff_getElem.mp h
  rw [List.getElem?_eq_getElem h1]
  exact congrArg some (eq_of_beq h2)
structure Gd (I : Inf) (k : Nat) (X : Cx) : Prop where
  N : X.N = I.N
  nd : X.N.Nodup
  sc : X.env.scope = I.sc
  calm : I.calm = true → X.calm = true
  un : X.A.units + 100 < cLine
  stm : I.stm = true → X.stack = X.env :: X.outer ∧ X.env.frame = some X.env.locals
  kt : I.kt = PySem.W.kitOne X.K
  xm : I.xm = PySem.W.exmOne X.K
  exc : ∀ en a cls, I.exc = some (en, a, cls) → ∃ X0 oe pn D, X = Cx.suite X0 a ((a, oe) :: pn) ∧ cls = .ref D ∧ ExcC X.K D ∧ Zc cls none oe ∧ ∃ vs, oe.data = .fields vs
  kind : X.env.scope.kind = .function
  room : I.calm = true → Room k X.A
  fn : X.fn = I.fn
  fns : ∀ x sp, I.fns.lookup x = some sp → FnHas X k x sp
  free : ∀ x, x ∈ I.free → X.mg x = none
  consts : ∀ x d, I.consts.lookup x = some d → ∃ v w, X.mg x = some w ∧ RelV v w ∧ ∀ H, Dt X.K H d v
  excs : ∀ x C, I.excs.lookup x = some C → XcHas X x C
def visB (sc : Scope) (x : Str) : Bool := match sc.names.lookup x with
  | some .local => true
  | some .cell => true
  | some .free => true
  | _ => false
theorem vis_ok {sc : Scope} {x : Str} (h : visB sc x = true) : Vis sc x := by
  unfold visB at h
  split at h
  · exact .inl (by assumption)
  · exact .inr (.inl (by assumption))
  · exact .inr (.inr (by assumption))
  · cases h
def locB (sc : Scope) (fn : Str → Bool) (x : Str) : Bool := match sc.names.lookup x with
  | some .local => true
  | some .cell => fn x
  | _ => false
theorem loc_ok {sc : Scope} {fn : Str → Bool} {x : Str} (h : locB sc fn x = true) : Loc sc x ∧ (fn x = true ∨ sc.names.lookup x = some .local) := by
  unfold locB at h
  split at h
  · exact ⟨.inl (by assumption), .inr (by assumption)⟩
  · exact ⟨.inr (by assumption), .inl h⟩
  · cases h
def glB (sc : Scope) (x : Str) : Bool := match sc.names.lookup x with
  | some .globalImplicit => true
  | _ => false
theorem gl_ok {X : Cx} {sc : Scope} {x : Str} (e : X.env.scope = sc) (h : glB sc x = true) : Gl X x := by
  unfold glB at h
  split at h
  · show X.env.scope.names.lookup x = _
    rw [e]
    assumption
  · cases h
/-- no name of the machine's own -/
def nmB (x : Str) : Bool := !(x == ("__debug__" : Str)) && !(x == ("__classdict__" : Str)) && !(x == ("__name__" : Str))
theorem nm_ok {x : Str} (h : nmB x = true) : (x == ("__debug__" : Str)) = false ∧ (x == ("__classdict__" : Str)) = false ∧ x ≠ "__name__" := by
  unfold nmB at h
  rw [Bool.and_eq_true, Bool.and_eq_true, Bool.not_eq_true', Bool.not_eq_true', Bool.not_eq_true'] at h
  exact ⟨h.1.1, h.1.2, beq_eq_false_iff_ne.mp h.2⟩
/-- a block's scope -/
def relB (scope sc : Scope) : Scope :=
  { scope with names := scope.names.map fun (n, k) => if (k == NameKind.free && sc.kind == .function && sc.names.lookup n == some .cell) then (n, NameKind.cell) else (n, k) }
theorem relB_ok {scope : Scope} {env : Env} {cl : List (Str × Addr)} {C : Addr} : (compEnvC scope cl C env).scope = relB scope env.scope := rfl
def Inf.blk (I : Inf) (scope : Scope) : Inf := { I with sc := relB scope I.sc, stm := false, exc := none, fn := fun x => scope.names.lookup x == some .cell }
theorem Gd.blk {I : Inf} {k : Nat} {X : Cx} (g : Gd I k X) {scope : Scope} (hk : scope.kind = .function) (s : Shared) (H : Hp) (C : Addr) (cl : List (Str × Addr)) (fp : List Addr) : Gd (I.blk scope) k (X.blk s H scope (compEnvC scope cl C X.env) fp) where
  N := g.N
  nd := g.nd
  sc := by rw [relB_ok, g.sc]; rfl
  calm := g.calm
  un := g.un
  stm := fun z => by cases z
  kt := g.kt
  xm := g.xm
  exc := fun _ _ _ z => by cases z
  kind := hk
  room := g.room
  fn := rfl
  fns := fun x sp h => let ⟨f⟩ := g.fns x sp h; ⟨f⟩
  free := g.free
  consts := g.consts
  excs := fun x C h => let ⟨a, b, c, d, e, f⟩ := g.excs x C h; ⟨a, b, c, d, e, f⟩
def ownOf (N : List Str) (scope : Scope) : List (Str × Nat) := scope.names.filterMap fun (x, k) => if (k == .local || k == .cell) then (idx N x).map fun i => (x, i) else none

/-! ### tables -/
def opPr : Operator → Option (D → D → SH → Res)
  | .Add => some pAdd
  | .Sub => some pSub
  | .Mult => some pMul
  | .FloorDiv => some pDiv
  | .Mod => some pMod
  | .Pow => some pPow
  | _ => none
theorem opPr_ok {X : Cx} {op : Operator} {pr : D → D → SH → Res} (h : opPr op = some pr) : OpD X (binaryOp op) pr := by
  cases op <;> cases h
  · exact od_add
  · exact od_sub
  · exact od_mul
  · exact od_mod
  · exact od_pow
  · exact od_div
def cmpPr : CmpOp → Option (D → D → SH → Res)
  | .Eq => some (pEq false)
  | .NotEq => some (pEq true)
  | .Lt => some pLt
  | .LtE => some pLe
  | .Gt => some pGt
  | .GtE => some pGe
  | .Is => some (pIs false)
  | .IsNot => some (pIs true)
  | .In => some (pIn false)
  | .NotIn => some (pIn true)
theorem cmpPr_ok {X : Cx} (hr : X.A.units + 100 < cLine) {op : CmpOp} {pr : D → D → SH → Res} (h : cmpPr op = some pr) : OpD X (compareOp op) pr := by
  have hu : X.A.units + 65 < cLine := by omega
  cases op <;> cases h
  · exact od_eq (by omega)
  · exact od_ne (by omega)
  · exact od_lt
  · exact od_le
  · exact od_gt
  · exact od_ge
  · exact od_is
  · exact od_isN
  · exact od_in hu
  · exact od_notIn hu
inductive BK where
  | fn (id : String) | ty (T : String)
def bltPr (f : Str) (n : Nat) : Option (BK × (List D → SH → Res)) :=
  if f = "len" then some (.fn "len", pLen)
  else if f = "abs" then some (.fn "abs", pAbs)
  else if f = "int" then some (.ty "int", pInt)
  else if f = "list" then some (.ty "list", pList)
  else if f = "tuple" then some (.ty "tuple", pTuple)
  else if f = "sorted" then some (.fn "sorted", pSorted)
  else if f = "sum" then some (.fn "sum", pSum)
  else if f = "all" then some (.fn "all", pAll)
  else if f = "any" then some (.fn "any", pAny)
  else if f = "max" ∧ n = 2 then some (.fn "max", pMax2)
  else if f = "min" ∧ n = 2 then some (.fn "min", pMin2)
  else none
def BK.val : BK → Value
  | .fn id => .builtin id
  | .ty T => .type T
theorem bltPr_ok {X : Cx} (hc : X.calm = true) {f : Str} {n : Nat} {b : BK} {pr : List D → SH → Res} (h : bltPr f n = some (b, pr)) : bootBuiltins f = some b.val ∧ CallD X b.val pr := by
  unfold bltPr at h
  split at h
  · rename_i e; cases h; subst e; exact ⟨by decide +kernel, cd_len⟩
  split at h
  · rename_i e; cases h; subst e; exact ⟨by decide +kernel, cd_abs⟩
  split at h
  · rename_i e; cases h; subst e; exact ⟨by decide +kernel, cd_int⟩
  split at h
  · rename_i e; cases h; subst e; exact ⟨by decide +kernel, cd_list⟩
  split at h
  · rename_i e; cases h; subst e; exact ⟨by decide +kernel, cd_tuple⟩
  split at h
  · rename_i e; cases h; subst e; exact ⟨by decide +kernel, cd_sorted⟩
  split at h
  · rename_i e; cases h; subst e; exact ⟨by decide +kernel, cd_sum hc⟩
  split at h
  · rename_i e; cases h; subst e; exact ⟨by decide +kernel, cd_all hc⟩
  split at h
  · rename_i e; cases h; subst e; exact ⟨by decide +kernel, cd_any hc⟩
  split at h
  · rename_i e; cases h; rw [e.1]; exact ⟨by decide +kernel, cd_max2 hc⟩
  split at h
  · rename_i e; cases h; rw [e.1]; exact ⟨by decide +kernel, cd_min2 hc⟩
  cases h
def mthPr (m : Str) : Option (String × String × (D → List D → SH → Res)) :=
  if m = "append" then some ("list", "list.append", pAppend)
  else if m = "extend" then some ("list", "list.extend", pExtend)
  else if m = "pop" then some ("list", "list.pop", pPop)
  else if m = "remove" then some ("list", "list.remove", pRemove)
  else if m = "index" then some ("list", "list.index", pIndex)
  else if m = "count" then some ("list", "list.count", pCount)
  else if m = "reverse" then some ("list", "list.reverse", pReverse)
  else none
structure MthOk (X : Cx) (m : Str) (T id : String) (pr : D → List D → SH → Res) : Prop where
  pl : PlainAttrs T
  sl : Slot T m id
  ty : typeOf (.builtin id) = pure (.type "method_descriptor")
  md : MtD X id pr
theorem mthPr_ok {X : Cx} {m : Str} {T id : String} {pr : D → List D → SH → Res} (h : mthPr m = some (T, id, pr)) : MthOk X m T id pr := by
  unfold mthPr at h
  split at h
  · rename_i e; cases h; subst e; exact ⟨PySem.F.plainAttrs_list, PySem.F.slot_list_append, PySem.F.type_list_append, md_append⟩
  split at h
  · rename_i e; cases h; subst e; exact ⟨PySem.F.plainAttrs_list, PySem.F.slot_list_extend, PySem.F.type_list_extend, md_extend⟩
  split at h
  · rename_i e; cases h; subst e; exact ⟨PySem.F.plainAttrs_list, PySem.F.slot_list_pop, PySem.F.type_list_pop, md_pop⟩
  split at h
  · rename_i e; cases h; subst e; exact ⟨PySem.F.plainAttrs_list, PySem.F.slot_list_remove, PySem.F.type_list_remove, md_remove⟩
  split at h
  · rename_i e; cases h; subst e; exact ⟨PySem.F.plainAttrs_list, PySem.F.slot_list_index, PySem.F.type_list_index, md_index⟩
  split at h
  · rename_i e; cases h; subst e; exact ⟨PySem.F.plainAttrs_list, PySem.F.slot_list_count, PySem.F.type_list_count, md_count⟩
  split at h
  · rename_i e; cases h; subst e; exact ⟨PySem.F.plainAttrs_list, PySem.F.slot_list_reverse, PySem.F.type_list_reverse, md_reverse⟩
  cases h
def tyPr (x : Str) : Option String :=
  if x = "int" then some "int" else if x = "bool" then some "bool" else if x = "str" then some "str" else if x = "tuple" then some "tuple" else if x = "list" then some "list" else if x = "dict" then some "dict" else none
theorem tyPr_ok {x : Str} {T : String} (h : tyPr x = some T) : tyBoot x T ∧ T ∈ tyNames := by
  unfold tyPr at h
  split at h
  · rename_i e; cases h; subst e; exact ⟨⟨by decide +kernel, by decide +kernel, by decide +kernel⟩, by decide⟩
  split at h
  · rename_i e; cases h; subst e; exact ⟨⟨by decide +kernel, by decide +kernel, by decide +kernel⟩, by decide⟩
  split at h
  · rename_i e; cases h; subst e; exact ⟨⟨by decide +kernel, by decide +kernel, by decide +kernel⟩, by decide⟩
  split at h
  · rename_i e; cases h; subst e; exact ⟨⟨by decide +kernel, by decide +kernel, by decide +kernel⟩, by decide⟩
  split at h
  · rename_i e; cases h; subst e; exact ⟨⟨by decide +kernel, by decide +kernel, by decide +kernel⟩, by decide⟩
  split at h
  · rename_i e; cases h; subst e; exact ⟨⟨by decide +kernel, by decide +kernel, by decide +kernel⟩, by decide⟩
  cases h
end DL

set_option Elab.async false
set_option linter.all false
set_option maxRecDepth 100000
set_option maxHeartbeats 4000000
namespace DL
open PySem PySem.Spec PyProof.Rows L2

/-! ### two names at once -/
def isStarE : Expr → Bool
  | .Starred .. => true
  | _ => false
def swNames (sc : Scope) (ts : List Expr) : List Str := ts.filterMap fun e => match e with
  | .Name id pos => if (sc.names.lookup id == some .local && pos.line == (ts.head?.map (·.pos.line)).getD 0) = true then some id else none
  | _ => none
/-- none: not supported; some none: as written; some names: from the right -/
def swB (sc : Scope) (ts vs : List Expr) : Option (Option (List Str)) :=
  if (!(ts.length == 2 || ts.length == 3) || vs.length != ts.length) = true then some none
  else if vs.any isStarE = true then some none
  else if ((swNames sc ts).length != ts.length || (swNames sc ts).eraseDups.length != (swNames sc ts).length) = true then some none
  else if vs.all (foldedForSure 8) = true then some none
  else if vs.all (constantsAlone 8) = true then none
  else some (some (swNames sc ts))
theorem sw_ok {ts vs : List Expr} {k k2 : Nat} {p p2 : Pos} {env : Env} {r : Option (List Str)} (hk : env.scope.kind = .function) (h : swB env.scope ts vs = some r) : swappedStores [.Tuple ts k p] (.Tuple vs k2 p2) env = pure r := by
  have hb : (env.blockKind != .function) = false := by unfold Env.blockKind; rw [hk]; rfl
  unfold swB at h
  unfold swappedStores
  show (if (!(ts.length == 2 || ts.length == 3) || vs.length != ts.length || env.blockKind != .function) = true then pure none else if vs.any isStarE = true then pure none
    else if ((swNames env.scope ts).length != ts.length || (swNames env.scope ts).eraseDups.length != (swNames env.scope ts).length) = true then pure none
    else if vs.all (foldedForSure 8) = true then pure none else _) = pure r
  rw [hb, Bool.or_false]
  split at h
  · rename_i c
    rw [if_pos c]
    cases h; rfl
  · rename_i c
    rw [if_neg c]
    split at h
    · rename_i c
      rw [if_pos c]
      cases h; rfl
    · rename_i c
      rw [if_neg c]
      split at h
      · rename_i c
        rw [if_pos c]
        cases h; rfl
      · rename_i c
        rw [if_neg c]
        split at h
        · rename_i c
          rw [if_pos c]
          cases h; rfl
        · rename_i c
          rw [if_neg c]
          split at h
          · cases h
          · rename_i c
            rw [if_neg c]
            cases h; rfl

/-! ### from the text to the readings -/
def dFailI : DI := fun _ _ _ _ => False
def dFailG : DG := fun _ _ _ _ _ => False
def dFailGs : DGs := fun _ _ _ _ _ => False
def dFailO : DO1 := fun _ _ _ _ => False
def dFailRg : DRg := fun _ _ _ _ => False
def dUn (pr : D → SH → Res) (ta : DE) : DE := fun E τ S Q => ta E τ S fun x S1 => resW (pr x S1) S1 Q
def cName (I : Inf) (x : Str) : DE :=
  if nmB x = true then
    match idx I.N x, visB I.sc x with
    | some i, true => dVar i
    | _, _ => if glB I.sc x = true then (match I.consts.lookup x with
      | some d => dC d
      | none => dFail) else dFail
  else dFail
def cConst : Const → DE
  | .int i => dC (.int i)
  | .bool b => dC (.bl b)
  | .none => dC .non
  | .str x => dC (.str x)
  | _ => dFail
def okFree (I : Inf) (x : Str) : Bool := glB I.sc x && decide (x ∈ I.free) && nmB x
/-- the targets of a comprehension -/
def gwName (I : Inf) (vs : List Nat) : Expr → DG
  | .Name x _ => (match idx I.N x with
    | some i => if (locB I.sc I.fn x && decide (i ∈ vs)) = true then kName i else dFailG
    | none => dFailG)
  | _ => dFailG
def gwNames (I : Inf) (vs : List Nat) : List Expr → DGs
  | [] => kNil
  | e :: es => if notStar e = true then kCons (gwName I vs e) (gwNames I vs es) else dFailGs
def gwOf (I : Inf) (vs : List Nat) (pr : Bool) (tg : Expr) : DG := match tg with
  | .Tuple tgs _ _ => if tgs.all notStar = true then (if pr = true then (if tgs.length = 2 then kTup 2 (gwNames I vs tgs) else dFailG) else kTup tgs.length (gwNames I vs tgs)) else dFailG
  | _ => if pr = true then dFailG else gwName I vs tg
/-- isinstance(e, C), e the error that the suite holds -/
def dIsE (kt : Value → Value → Option Bool) (a : Addr) (cls : Value) (ts : DA) : DE := fun E τ S Q => ts E τ S fun ds S1 => ∃ (A : Addr) (b : Bool), ds = [.ref a, .ref A] ∧ kt cls (.ref A) = some b ∧ Q (.bl b) S1
def cIsE (I : Inf) (en : Str) (a : Addr) (cls : Value) (args : List Expr) : DE := match args with
  | [.Name y _, .Name c _] => if (y == en && okFree I "isinstance" && nmB c && glB I.sc c) = true then (match I.excs.lookup c with
    | some A => dIsE I.kt a cls (dCons (cName I y) (dCons (dC (.ref A)) dNil))
    | none => dFail) else dFail
  | _ => dFail
mutual
def cE : Nat → Inf → Expr → DE
  | 0, _, _ => dFail
  | n + 1, I, e => match e with
    | .Name x _ => cName I x
    | .Constant c _ _ => cConst c
    | .BinOp a op b _ => (match opPr op with
      | some pr => dBin pr (cE n I a) (cE n I b)
      | none => dFail)
    | .UnaryOp op a _ => (match op with
      | .Not => dNot (cE n I a)
      | .USub => dUn pNeg (cE n I a)
      | _ => dFail)
    | .BoolOp op vs _ => cBV n I op vs
    | .Compare a ops bs _ => (match ops, bs with
      | [op], [b] => if notSet b = true then (match cmpPr op with
        | some pr => dBin pr (cE n I a) (cE n I b)
        | none => dFail) else dFail
      | [op, op'], [b, c] => if notSet c = true then (match cmpPr op, cmpPr op' with
        | some pr, some pr' => dChain pr pr' (cE n I a) (cE n I b) (cE n I c)
        | _, _ => dFail) else dFail
      | _, _ => dFail)
    | .IfExp c a b _ => dIf (cT n I c) (cE n I a) (cE n I b)
    | .List es _ => dLst (cA n I es)
    | .Tuple es _ _ => dTup (cA n I es)
    | .Subscript a b _ => (match b with
      | .Slice lo hi none _ => dSlice (cE n I a) (cO n I lo) (cO n I hi)
      | b => if notSlice b = true then dBin pIxA (cE n I a) (cE n I b) else dFail)
    | .Call f args kws pos => (match f, kws with
      | .Name x _, [] => cCall n I x args
      | .Attribute o m apos, [] => if (notCall0 o && (apos.endLine == pos.line) && args.all notStar && decide (args.length < 28)) = true then (match mthPr m with
        | some (T, _, pr) => dMeth T pr (cE n I o) (cA n I args)
        | none => dFail) else dFail
      | _, _ => dFail)
    | .ListComp elt gens scope _ => cComp n I elt gens scope
    | _ => dFail
/-- a comprehension -/
def cComp : Nat → Inf → Expr → List Comprehension → Scope → DE
  | 0, _, _, _, _ => dFail
  | n + 1, I, elt, gens, scope => match gens with
    | [⟨tg, iter, ifs, 0⟩] => if (I.calm && blkC I.N I.sc scope (ownOf I.N scope) && notSet iter) = true then
        dComp (cI n I tg iter).2 (gwOf (I.blk scope) ((ownOf I.N scope).map (·.2)) (cI n I tg iter).1 tg) (cTs n (I.blk scope) ifs) (cE n (I.blk scope) elt) ((ownOf I.N scope).map (·.2))
      else dFail
    | _ => dFail
def cBV : Nat → Inf → BoolOp → List Expr → DE
  | 0, _, _, _ => dFail
  | n + 1, I, op, vs => match vs with
    | [] => dFail
    | [x] => cE n I x
    | x :: y :: r => (match op with
      | .And => dAnd (cE n I x) (cBV n I .And (y :: r))
      | .Or => dOr (cE n I x) (cBV n I .Or (y :: r)))
def cT : Nat → Inf → Expr → DT
  | 0, _, _ => dFailT
  | n + 1, I, e => match e with
    | .UnaryOp .Not a _ => dNotT (cT n I a)
    | .BoolOp op vs _ => cBT n I op vs
    | .Compare a ops bs _ => (match ops, bs with
      | [op], [b] => if notSet b = true then (match cmpPr op with
        | some pr => dTst (dBin pr (cE n I a) (cE n I b))
        | none => dFailT) else dFailT
      | [op, op'], [b, c] => if notSet c = true then (match cmpPr op, cmpPr op' with
        | some pr, some pr' => dTst (dChain pr pr' (cE n I a) (cE n I b) (cE n I c))
        | _, _ => dFailT) else dFailT
      | _, _ => dFailT)
    | e => if plainTest e = true then dTst (cE n I e) else dFailT
def cBT : Nat → Inf → BoolOp → List Expr → DT
  | 0, _, _, _ => dFailT
  | n + 1, I, op, vs => match vs with
    | [] => dFailT
    | [x] => cT n I x
    | x :: y :: r => (match op with
      | .And => dAndT (cT n I x) (cBT n I .And (y :: r))
      | .Or => dOrT (cT n I x) (cBT n I .Or (y :: r)))
def cA : Nat → Inf → List Expr → DA
  | 0, _, _ => dFailA
  | n + 1, I, es => match es with
    | [] => dNil
    | e :: es => if notStar e = true then dCons (cE n I e) (cA n I es) else dFailA
def cO : Nat → Inf → Option Expr → DO1
  | 0, _, _ => dFailO
  | n + 1, I, e => match e with
    | none => oNone
    | some e => oSome (cE n I e)
def cTs : Nat → Inf → List Expr → DT
  | 0, _, _ => dFailT
  | n + 1, I, es => match es with
    | [] => dYes
    | [c] => cT n I c
    | _ => dFailT
def cRg : Nat → Inf → Expr → DRg
  | 0, _, _ => dFailRg
  | n + 1, I, e => match e with
    | .Call (.Name f _) args [] _ => if (f == ("range" : Str) && okFree I f && args.all notStar) = true then (match args with
      | [a] => rg1 (cE n I a)
      | [a, b] => rg2 (cE n I a) (cE n I b)
      | _ => dFailRg) else dFailRg
    | _ => dFailRg
def cCall : Nat → Inf → Str → List Expr → DE
  | 0, _, _, _ => dFail
  | n + 1, I, x, args => match I.exc with
    | some (en, a, cls) => if x = "isinstance" then cIsE I en a cls args else dFail
    | none => if (glB I.sc x && nmB x && args.all notStar && I.calm) = true then (match I.fns.lookup x with
        | some sp => dCall sp (cA n I args)
        | none => if x ∈ I.free then cBlt n I x args else dFail)
      else dFail
/-- a built-in by its name -/
def cBlt : Nat → Inf → Str → List Expr → DE
  | 0, _, _, _ => dFail
  | n + 1, I, x, args =>
    if x = "isinstance" then (match args with
      | [e, .Name t _] => if okFree I t = true then (match tyPr t with
        | some T => dIsi [T] (cE n I e)
        | none => dFail) else dFail
      | [e, .Tuple [.Name t _, .Name t2 _] _ _] => if (okFree I t && okFree I t2) = true then (match tyPr t, tyPr t2 with
        | some T, some T2 => dIsi [T, T2] (cE n I e)
        | _, _ => dFail) else dFail
      | _ => dFail)
    else match args with
      | [.Call (.Name g p2) args2 [] q] =>
        if g = "set" then (match args2 with
          | [a] => if (x == ("sorted" : Str) && okFree I g && notStar a) = true then dSortSet (cE n I a) else dFail
          | _ => dFail)
        else if g = "range" then (if x = "list" then dListRg (cRg n I (.Call (.Name g p2) args2 [] q)) else if x = "tuple" then dTupRg (cRg n I (.Call (.Name g p2) args2 [] q)) else dFail)
        else (match bltPr x args.length with
          | some (_, pr) => dCB pr (cA n I args)
          | none => dFail)
      | _ => (match args with
        | [] => dFail
        | _ => (match bltPr x args.length with
          | some (_, pr) => dCB pr (cA n I args)
          | none => dFail))
def cI : Nat → Inf → Expr → Expr → Bool × DI
  | 0, _, _, _ => (false, dFailI)
  | n + 1, I, tg, iter => match iter with
    | .Call (.Name f p) args [] pos =>
      if f = "range" then (false, if (okFree I f && args.all notStar) = true then (match args with
        | [a] => iRng1 (cE n I a)
        | [a, b] => iRng2 (cE n I a) (cE n I b)
        | _ => dFailI) else dFailI)
      else if f = "zip" then (true, if (okFree I f && args.all notStar) = true then (match tg, args with
        | .Tuple _ _ _, [a, b] => iZip2 (cE n I a) (cE n I b)
        | _, _ => dFailI) else dFailI)
      else (false, iVal (cE n I (.Call (.Name f p) args [] pos)))
    | iter => (false, iVal (cE n I iter))
end
mutual
def cG : Nat → Inf → Expr → DG
  | 0, _, _ => dFailG
  | n + 1, I, tg => match tg with
    | .Name x _ => (match idx I.N x with
      | some i => if locB I.sc I.fn x = true then kName i else dFailG
      | none => dFailG)
    | .Tuple tgs _ _ => if (tgs.all notStar && I.calm) = true then kTup tgs.length (cGs n I tgs) else dFailG
    | .Subscript a b _ => if notSlice b = true then kSub pSetIx (cE n I a) (cE n I b) else dFailG
    | _ => dFailG
def cGs : Nat → Inf → List Expr → DGs
  | 0, _, _ => dFailGs
  | n + 1, I, tgs => match tgs with
    | [] => kNil
    | e :: es => if notStar e = true then kCons (cG n I e) (cGs n I es) else dFailGs
end
def cGy (n : Nat) (I : Inf) (pr : Bool) (tg : Expr) : DG := if pr = true then (match tg with
  | .Tuple tgs _ _ => if (tgs.all notStar && decide (tgs.length = 2) && I.calm) = true then kTup 2 (cGs n I tgs) else dFailG
  | _ => dFailG) else cG n I tg
def isLC : Expr → Bool
  | .ListComp .. => true
  | _ => false
/-! ### try -/
def asK (xm : Value → Option Bool) (excs : List (Str × Addr)) (i : Nat) (u : Addr → Value → DS) (E : EK) (DD : DEnds) : EK := fun cls fs τ' S' => match xm cls with
  | some true => fs = [] ∧ (∃ x D, excs.lookup x = some D ∧ cls = .ref D) ∧ ∀ a, S' a = none → u a cls ek0 { nx := fun τ S => DD.nx (τ.set i none) S, rt := DD.rt, bk := fun τ S => DD.bk (τ.set i none) S, ct := fun τ S => DD.ct (τ.set i none) S } (τ'.set i (some (.ref a))) S'
  | some false => E cls fs τ' S'
  | none => False
/-- except X as n: -/
def dTryAs (xm : Value → Option Bool) (excs : List (Str × Addr)) (i : Nat) (t : DS) (u : Addr → Value → DS) : DS := fun E DD τ S => t (asK xm excs i u E DD) DD τ S
def onK (xm : Value → Option Bool) (u : DS) (E : EK) (DD : DEnds) : EK := fun cls fs τ' S' => match xm cls with
  | some true => u ek0 DD τ' S'
  | some false => E cls fs τ' S'
  | none => False
/-- except X: -/
def dTryOnly (xm : Value → Option Bool) (t u : DS) : DS := fun E DD τ S => t (onK xm u E DD) DD τ S
/-- y = [..]: whether the list goes straight to the name -/
def lcDirect (sc : Scope) (y : Str) (py : Pos) (e : Expr) : Bool := match e with
  | .ListComp _ _ scope pos => (sc.names.lookup y == some .local) && (py.line == pos.line) && !(scope.names.any fun (n, k) => n == y && (k == .local || k == .cell))
  | _ => false
mutual
def cS : Nat → Inf → Stmt → DS
  | 0, _, _ => dFailS
  | n + 1, I, st => match st with
    | .Pass _ => dNext
    | .Break _ => dBreak
    | .Continue _ => dCont
    | .Return none _ => dRetN
    | .Return (some e) _ => dRet (cE n I e)
    | .Expr e _ => (match e with
      | .Constant (.str _) _ _ => dNext
      | e => if notComp e = true then dExpr (cE n I e) else dFailS)
    | .If c a b _ => dIfS (cT n I c) (cSs n I a) (cSs n I b)
    | .While c body orelse _ => (match orelse with
      | [] => dWhile (cT n I c) (cSs n I body)
      | _ => dFailS)
    | .For tg iter body orelse _ => (match orelse with
      | [] => if (notSet iter && I.calm) = true then dFor (cI n I tg iter).2 (cGy n I (cI n I tg iter).1 tg) (cSs n I body) else dFailS
      | _ => dFailS)
    | .Assign tgs e pos => (match tgs with
      | [.Name y py] => (match idx I.N y with
        | some i => if locB I.sc I.fn y = true then (if notComp e = true then dAsg (cE n I e) (kName i) else if isLC e = true then dAsg (cE n I e) (kName i) else dFailS) else dFailS
        | none => dFailS)
      | [.Tuple ts _ _] => if (ts.all notStar && I.calm) = true then (match e with
        | .Tuple vs _ _ => (match swB I.sc ts vs with
          | some none => dAsg (cE n I e) (kTup ts.length (cGs n I ts))
          | some (some names) => (match ts, vs with
            | [.Name x _, .Name y _], [a, b] => (match idx I.N x, idx I.N y with
              | some i, some j => if (decide (names = [x, y]) && decide (i ≠ j) && decide (I.sc.names.lookup x = some .local) && decide (I.sc.names.lookup y = some .local)) = true then dPar i j (cA n I [a, b]) else dFailS
              | _, _ => dFailS)
            | [.Name x _, .Name y _, .Name z _], [a, b, c] => (match idx I.N x, idx I.N y, idx I.N z with
              | some i, some j, some l => if (decide (names = [x, y, z]) && decide (i ≠ j) && decide (i ≠ l) && decide (j ≠ l) && decide (I.sc.names.lookup x = some .local) && decide (I.sc.names.lookup y = some .local) && decide (I.sc.names.lookup z = some .local)) = true then dPar3 i j l (cA n I [a, b, c]) else dFailS
              | _, _, _ => dFailS)
            | _, _ => dFailS)
          | none => dFailS)
        | e => dAsg (cE n I e) (kTup ts.length (cGs n I ts))) else dFailS
      | [.Subscript a b _] => if notSlice b = true then dAsg (cE n I e) (kSub pSetIx (cE n I a) (cE n I b)) else dFailS
      | _ => dFailS)
    | .Try body [.ExceptHandler (some (.Name x _)) nm (b0 :: suite) _] [] [] _ => if (glB I.sc x && nmB x && I.calm && I.stm) = true then (match I.excs.lookup x with
      | some C => (match nm with
        | some en => (match idx I.N en with
          | some i => if I.sc.names.lookup en = some .local then dTryAs (fun cls => I.xm cls (.ref C)) I.excs i (cSs n I body) (fun a cls => cSs n { I with calm := false, exc := some (en, a, cls) } (b0 :: suite)) else dFailS
          | none => dFailS)
        | none => dTryOnly (fun cls => I.xm cls (.ref C)) (cSs n I body) (cSs n { I with calm := false, exc := none } (b0 :: suite)))
      | none => dFailS) else dFailS
    | .Raise (some (.Call (.Name x _) [] [] _)) none _ => if (glB I.sc x && nmB x && I.calm) = true then (match I.excs.lookup x with
      | some C => dRaise0 C
      | none => dFailS) else dFailS
    | _ => dFailS
def cSs : Nat → Inf → List Stmt → DS
  | 0, _, _ => dFailS
  | n + 1, I, sts => match sts with
    | [] => dNext
    | [s] => cS n I s
    | s :: r => dSeq (cS n I s) (cSs n I r)
end
end DL

set_option Elab.async false
set_option linter.all false
set_option maxRecDepth 100000
set_option maxHeartbeats 4000000
namespace DL
open PySem PySem.Spec PyProof.Rows L2

section
variable {X : Cx} {I : Inf} {k : Nat} {pos p : Pos} {e tg iter : Expr} {es : List Expr} {x : Str}
theorem si_fail {b : Bool} : SI X b tg iter dFailI := fun _ _ _ => ⟨fun _ _ _ => False, ⟨fun _ _ _ _ _ _ h => h.elim⟩, fun _ _ _ _ _ _ _ h _ => h.elim⟩
theorem sg_fail : SG X tg dFailG := fun _ _ _ => ⟨fun _ _ _ _ => False, ⟨fun _ _ _ _ _ _ _ _ _ h => h.elim⟩, fun _ _ _ _ _ _ _ _ _ _ h _ => h.elim⟩
theorem sgs_fail {tgs : List Expr} : SGs X tgs dFailGs := fun _ _ _ => ⟨fun _ _ _ _ => False, ⟨fun _ _ _ _ _ _ _ _ _ h => h.elim⟩, fun _ _ _ _ _ _ _ _ _ _ h _ => h.elim⟩
theorem sgy_fail {b : Bool} : SGy X b tg dFailG := fun _ _ _ => ⟨fun _ _ _ _ => False, ⟨fun _ _ _ _ _ _ _ _ _ h => h.elim⟩, fun _ _ _ _ _ _ _ _ _ _ h _ => h.elim⟩
theorem sgw_fail {b : Bool} {vs : List Nat} : SGw X b vs tg dFailG := fun _ => ⟨fun _ _ _ _ => False, ⟨fun _ _ _ _ _ _ _ _ _ h => h.elim⟩, fun _ _ _ _ _ _ _ _ _ _ h _ => h.elim⟩
theorem sgws_fail {vs : List Nat} {tgs : List Expr} : SGws X vs tgs dFailGs := fun _ => ⟨fun _ _ _ _ => False, ⟨fun _ _ _ _ _ _ _ _ _ h => h.elim⟩, fun _ _ _ _ _ _ _ _ _ _ h _ => h.elim⟩
theorem so_fail {o : Option Expr} : SO X o dFailO := fun _ _ _ => ⟨fun _ _ _ => False, ⟨fun _ _ _ _ _ _ h => h.elim⟩, fun _ _ _ _ _ _ _ h _ => h.elim⟩
theorem sts_fail : STs X es dFailT := fun _ _ _ => ⟨fun _ _ _ => False, ⟨fun _ _ _ _ _ _ h => h.elim⟩, fun _ _ _ _ _ _ _ h _ => h.elim⟩
theorem srg_fail : SRg X e dFailRg := fun _ _ _ => ⟨fun _ _ _ => False, fun _ _ _ _ _ _ h => h.elim, fun _ _ _ _ _ _ _ h _ => h.elim⟩

theorem snd_name (g : Gd I k X) : SE X (.Name x pos) (cName I x) := by
  unfold cName
  split
  · rename_i hn
    obtain ⟨n1, n2, n3⟩ := nm_ok hn
    split
    · rename_i i e1 e2
      exact se_var (by rw [g.N]; exact idx_ok e1) (by rw [g.sc]; exact vis_ok e2) n1 n2
    · split
      · rename_i hg
        split
        · rename_i d e
          obtain ⟨v, w, h1, h2, h3⟩ := g.consts x d e
          exact se_glob (gl_ok g.sc hg) h1 h2 h3 n1
        · exact se_fail
      · exact se_fail
  · exact se_fail
theorem snd_const {c : Const} {j : Nat} : SE X (.Constant c j pos) (cConst c) := by
  cases c <;> first | exact se_int | exact se_bl | exact se_non | exact se_str | exact se_fail
theorem free_ok (g : Gd I k X) (h : okFree I x = true) : Gl X x ∧ X.mg x = none ∧ (x == ("__debug__" : Str)) = false ∧ x ≠ "__name__" := by
  unfold okFree at h
  rw [Bool.and_eq_true, Bool.and_eq_true, decide_eq_true_eq] at h
  obtain ⟨n1, _, n3⟩ := nm_ok h.2
  exact ⟨gl_ok g.sc h.1.1, g.free x h.1.2, n1, n3⟩
theorem snd_isE (g : Gd I k X) {en : Str} {a : Addr} {cls : Value} (hx : I.exc = some (en, a, cls)) (p : Pos) (args : List Expr) (pos : Pos) : SE X (.Call (.Name "isinstance" p) args [] pos) (cIsE I en a cls args) := by
  unfold cIsE
  split
  · rename_i y p1 c p2
    split
    · rename_i h
      rw [Bool.and_eq_true, Bool.and_eq_true, Bool.and_eq_true] at h
      obtain ⟨f1, f2, f3, f4⟩ := free_ok g h.1.1.2
      obtain ⟨n1, n2, n3⟩ := nm_ok h.1.2
      split
      · rename_i A hA
        have hc := g.excs c A hA
        have tA : SE X (.Name c p2) (dC (.ref A)) := se_glob (v := .ref A) (gl_ok g.sc h.2) hc.g rfl (fun _ => .ref A) n1
        have aa : SA X [.Name y p1, .Name c p2] (dCons (cName I y) (dCons (dC (.ref A)) dNil)) := sa_cons (snd_name g) (sa_cons tA sa_nil rfl) rfl
        obtain ⟨X0, oe, pn, Dc, hX, rfl, hC, hz, hf⟩ := g.exc en a cls hx
        have hC' : ExcC X.K Dc := hC
        have CR : CallR X (.builtin "isinstance") (rIsE X.K Dc a) := by
          subst hX
          exact call_isE hC hz hf
        intro ED H0 tk
        obtain ⟨ra, pa, ka⟩ := aa ED H0 tk
        refine ⟨_, pe_callB CR f1 f2 (show bootBuiltins "isinstance" = some (.builtin "isinstance") by decide +kernel) pa f4 f3 rfl rfl, fun σ H τ S Q R r h kk => ?_⟩
        refine ka σ H τ S _ _ r h fun vs H' ds S' m a' d' ⟨A', b, e1, e2, q⟩ => ?_
        subst e1
        obtain ⟨v, u, rfl, d1, d2⟩ := d'.two
        cases d1
        cases d2
        refine ⟨.ref A', .ref A', b, rfl, fun u hu => hu, ?_, kk _ H' _ S' m a' (.bl _) q⟩
        rw [← g.kt]; exact e2
      · exact se_fail
    · exact se_fail
  · exact se_fail
theorem snd_gwName (g : Gd I k X) {vs : List Nat} {tg : Expr} : SGw X false vs tg (gwName I vs tg) := by
  unfold gwName
  split
  · rename_i x _
    split
    · rename_i i e1
      split
      · rename_i c
        rw [Bool.and_eq_true, decide_eq_true_eq] at c
        obtain ⟨l1, l2⟩ := loc_ok c.1
        rw [← g.sc] at l1 l2
        rw [← g.fn] at l2
        exact sgw_name g.nd (by rw [g.N]; exact idx_ok e1) l1 l2 c.2
      · exact sgw_fail
    · exact sgw_fail
  · exact sgw_fail
theorem snd_gwNames (g : Gd I k X) {vs : List Nat} : ∀ {tgs : List Expr}, SGws X vs tgs (gwNames I vs tgs)
  | [] => sgws_nil
  | e :: es => by
    unfold gwNames
    split
    · rename_i h
      exact sgws_cons (snd_gwName g) (snd_gwNames g) (asg_map h)
    · exact sgws_fail
theorem snd_gw (g : Gd I k X) (hcm : I.calm = true) {vs : List Nat} {pr : Bool} : SGw X pr vs tg (gwOf I vs pr tg) := by
  unfold gwOf
  split
  · rename_i tgs _ _
    split
    · rename_i h
      split
      · rename_i hp
        subst hp
        split
        · rename_i hl
          obtain ⟨a1, a2⟩ := asg_len (env := X.env) h
          exact sgw_pair (g.calm hcm) (snd_gwNames g) (by rw [a1, hl]) a2
        · exact sgw_fail
      · rename_i hp
        have hp : pr = false := by simpa using hp
        subst hp
        obtain ⟨a1, a2⟩ := asg_len (env := X.env) h
        exact sgw_tup (g.calm hcm) (snd_gwNames g) a1 a2
    · exact sgw_fail
  · split
    · exact sgw_fail
    · rename_i hp
      have hp : pr = false := by simpa using hp
      subst hp
      exact snd_gwName g
end

theorem all1 {a : Expr} (h : [a].all notStar = true) : notStar a = true := by simpa using h
theorem all2 {a b : Expr} (h : [a, b].all notStar = true) : notStar a = true ∧ notStar b = true := by simpa using h
theorem se_false {X : Cx} {e : Expr} {t : DE} (h : ∀ E τ S Q, ¬ t E τ S Q) : SE X e t := fun ED H0 _ => ⟨fun _ _ _ => False, ⟨fun _ _ _ _ _ _ h => h.elim⟩, fun _ _ _ _ _ _ _ h' _ => h _ _ _ _ h'⟩
theorem cA_nil (n : Nat) (I : Inf) : cA n I [] = dNil ∨ cA n I [] = dFailA := by
  cases n with
  | zero => exact .inr (by unfold cA; rfl)
  | succ n => exact .inl (by unfold cA; rfl)
structure Snd (n : Nat) : Prop where
  e : ∀ {I : Inf} {k : Nat} {X : Cx}, Gd I k X → ∀ e, SE X e (cE n I e)
  cp : ∀ {I : Inf} {k : Nat} {X : Cx}, Gd I k X → ∀ elt gens scope pos, SE X (.ListComp elt gens scope pos) (cComp n I elt gens scope)
  bv : ∀ {I : Inf} {k : Nat} {X : Cx}, Gd I k X → ∀ op vs pos, SE X (.BoolOp op vs pos) (cBV n I op vs)
  t : ∀ {I : Inf} {k : Nat} {X : Cx}, Gd I k X → ∀ e, ST X e (cT n I e)
  bt : ∀ {I : Inf} {k : Nat} {X : Cx}, Gd I k X → ∀ op vs pos, SW X (.BoolOp op vs pos) (cBT n I op vs)
  a : ∀ {I : Inf} {k : Nat} {X : Cx}, Gd I k X → ∀ es, SA X es (cA n I es)
  o : ∀ {I : Inf} {k : Nat} {X : Cx}, Gd I k X → ∀ o, SO X o (cO n I o)
  ts : ∀ {I : Inf} {k : Nat} {X : Cx}, Gd I k X → ∀ es, STs X es (cTs n I es)
  rg : ∀ {I : Inf} {k : Nat} {X : Cx}, Gd I k X → ∀ e, SRg X e (cRg n I e)
  call : ∀ {I : Inf} {k : Nat} {X : Cx}, Gd I k X → ∀ x p args pos, SE X (.Call (.Name x p) args [] pos) (cCall n I x args)
  blt : ∀ {I : Inf} {k : Nat} {X : Cx}, Gd I k X → I.calm = true → ∀ x p args pos, Gl X x → X.mg x = none → (x == ("__debug__" : Str)) = false → x ≠ "__name__" → args.all notStar = true → SE X (.Call (.Name x p) args [] pos) (cBlt n I x args)
  i : ∀ {I : Inf} {k : Nat} {X : Cx}, Gd I k X → ∀ tg iter, SI X (cI n I tg iter).1 tg iter (cI n I tg iter).2
theorem snd_zero : Snd 0 where
  e := fun _ _ => se_fail
  cp := fun _ _ _ _ _ => se_fail
  bv := fun _ _ _ _ => se_fail
  t := fun _ _ => st_fail
  bt := fun _ _ _ _ => sw_fail
  a := fun _ _ => sa_fail
  o := fun _ _ => so_fail
  ts := fun _ _ => sts_fail
  rg := fun _ _ => srg_fail
  call := fun _ _ _ _ _ => se_fail
  blt := fun _ _ _ _ _ _ _ _ _ _ _ => se_fail
  i := fun _ _ _ => si_fail
section
variable {n : Nat} (ih : Snd n) {X : Cx} {I : Inf} {k : Nat} (g : Gd I k X)
include ih g
theorem snd_a (es : List Expr) : SA X es (cA (n + 1) I es) := by
  unfold cA
  split
  · exact sa_nil
  · split
    · rename_i h
      exact sa_cons (ih.e g _) (ih.a g _) (star_ok h)
    · exact sa_fail
theorem snd_o (o : Option Expr) : SO X o (cO (n + 1) I o) := by
  unfold cO
  split
  · exact so_none
  · exact so_some (ih.e g _)
theorem snd_ts (es : List Expr) : STs X es (cTs (n + 1) I es) := by
  unfold cTs
  split
  · exact sts_nil
  · exact sts_one (ih.t g _)
  · exact sts_fail
theorem snd_bv (op : BoolOp) (vs : List Expr) (pos : Pos) : SE X (.BoolOp op vs pos) (cBV (n + 1) I op vs) := by
  unfold cBV
  split
  · exact se_fail
  · exact se_one (ih.e g _)
  · split
    · exact se_and (ih.e g _) (ih.bv g _ _ _)
    · exact se_or (ih.e g _) (ih.bv g _ _ _)
theorem snd_bt (op : BoolOp) (vs : List Expr) (pos : Pos) : SW X (.BoolOp op vs pos) (cBT (n + 1) I op vs) := by
  unfold cBT
  split
  · exact sw_fail
  · cases op
    · exact sw_and1 (ih.t g _)
    · exact sw_or1 (ih.t g _)
  · split
    · exact sw_and (ih.t g _) (ih.bt g _ _ _)
    · exact sw_or (ih.t g _) (ih.bt g _ _ _)
theorem snd_t (e : Expr) : ST X e (cT (n + 1) I e) := by
  unfold cT
  split
  · exact st_not (ih.t g _)
  · exact (ih.bt g _ _ _).st
  · split
    · split
      · rename_i h
        split
        · rename_i pr hp
          exact st_cmp (cmpPr_ok g.un hp) (ih.e g _) (ih.e g _) (mark_ok h)
        · exact st_fail
      · exact st_fail
    · split
      · rename_i h
        split
        · rename_i pr pr' hp hp'
          exact st_chain (cmpPr_ok g.un hp) (cmpPr_ok g.un hp') (ih.e g _) (ih.e g _) (ih.e g _) (marks_ok h)
        · exact st_fail
      · exact st_fail
    · exact st_fail
  · split
    · rename_i h
      exact st_val (ih.e g _) (plain_ok h)
    · exact st_fail
theorem snd_rg (e : Expr) : SRg X e (cRg (n + 1) I e) := by
  unfold cRg
  split
  · rename_i f p args pos
    split
    · rename_i h
      rw [Bool.and_eq_true, Bool.and_eq_true] at h
      obtain ⟨⟨h1, h2⟩, h3⟩ := h
      have h1 : f = "range" := eq_of_beq h1
      subst h1
      obtain ⟨f1, f2, f3, f4⟩ := free_ok g h2
      split
      · exact srg_1 f1 f2 (ih.e g _) (star_ok (by simpa using h3))
      · have h3 := all2 h3
        exact srg_2 f1 f2 (ih.e g _) (ih.e g _) (star_ok h3.1) (star_ok h3.2) (back_any (by simpa using h3.2))
      · exact srg_fail
    · exact srg_fail
  · exact srg_fail
theorem snd_call (x : Str) (p : Pos) (args : List Expr) (pos : Pos) : SE X (.Call (.Name x p) args [] pos) (cCall (n + 1) I x args) := by
  unfold cCall
  split
  · rename_i en a cls hx
    split
    · rename_i e
      subst e
      exact snd_isE g hx p args pos
    · exact se_fail
  split
  · rename_i h
    rw [Bool.and_eq_true, Bool.and_eq_true, Bool.and_eq_true] at h
    obtain ⟨⟨⟨h1, h2⟩, h3⟩, hcm⟩ := h
    obtain ⟨n1, n2, n3⟩ := nm_ok h2
    split
    · rename_i sp hs
      have F := g.fns x sp hs
      cases args with
      | nil =>
        rcases cA_nil n I with q | q
        · rw [q]; exact se_call0 F (g.room hcm) (gl_ok g.sc h1) n1
        · rw [q]; exact se_false fun _ _ _ _ z => z
      | cons e es =>
        rw [List.all_cons, Bool.and_eq_true] at h3
        exact se_call F (g.room hcm) (gl_ok g.sc h1) (ih.a g _) n1 (star_ok h3.1) (back_any h3.2)
    · split
      · rename_i hf
        exact ih.blt g hcm x p args pos (gl_ok g.sc h1) (g.free x hf) n1 n3 h3
      · exact se_fail
  · exact se_fail
theorem snd_blt (hcm : I.calm = true) (x : Str) (p : Pos) (args : List Expr) (pos : Pos) (hg : Gl X x) (hm : X.mg x = none) (hd : (x == ("__debug__" : Str)) = false) (hn : x ≠ "__name__") (hs : args.all notStar = true) : SE X (.Call (.Name x p) args [] pos) (cBlt (n + 1) I x args) := by
  have gen : ∀ {e : Expr} {es : List Expr}, (e :: es).all notStar = true → SE X (.Call (.Name x p) (e :: es) [] pos) (match bltPr x (e :: es).length with | some (_, pr) => dCB pr (cA n I (e :: es)) | none => dFail) := by
    intro e es h
    split
    · rename_i b pr hp
      obtain ⟨b1, b2⟩ := bltPr_ok (g.calm hcm) hp
      rw [List.all_cons, Bool.and_eq_true] at h
      cases b with
      | fn id => exact se_callB b2 hg hm b1 (ih.a g _) hn hd (star_ok h.1) (back_any h.2)
      | ty T => exact se_callTy b2 hg hm b1 (ih.a g _) hn hd (star_ok h.1) (back_any h.2)
    · exact se_fail
  unfold cBlt
  split
  · rename_i hx
    split
    · rename_i e t p2
      split
      · rename_i hf
        obtain ⟨f1, f2, f3, f4⟩ := free_ok g hf
        split
        · rename_i T hT
          obtain ⟨t1, t2⟩ := tyPr_ok hT
          rw [List.all_cons, Bool.and_eq_true] at hs
          exact se_isi hg hx hm f1 f2 t1 t2 (ih.e g _) (star_ok hs.1) rfl rfl
        · exact se_fail
      · exact se_fail
    · rename_i e t p2 t2 p3 kt q
      split
      · rename_i hf
        rw [Bool.and_eq_true] at hf
        obtain ⟨f1, f2, f3, f4⟩ := free_ok g hf.1
        obtain ⟨g1, g2, g3, g4⟩ := free_ok g hf.2
        split
        · rename_i T T2 hT hT2
          obtain ⟨t1, t2⟩ := tyPr_ok hT
          obtain ⟨t3, t4⟩ := tyPr_ok hT2
          rw [List.all_cons, Bool.and_eq_true] at hs
          exact se_isi2 hg hx hm f1 f2 t1 t2 g1 g2 t3 t4 (ih.e g _) (star_ok hs.1)
        · exact se_fail
      · exact se_fail
    · exact se_fail
  · split
    · rename_i gn p2 args2 q
      split
      · rename_i hgn
        subst hgn
        split
        · rename_i a
          split
          · rename_i h
            rw [Bool.and_eq_true, Bool.and_eq_true] at h
            have hx : x = "sorted" := eq_of_beq h.1.1
            subst hx
            obtain ⟨f1, f2, f3, f4⟩ := free_ok g h.1.2
            exact se_sortSetT (g.calm hcm) hg hm f1 f2 (ih.e g _) (star_ok h.2)
          · exact se_fail
        · exact se_fail
      · split
        · split
          · rename_i hx
            subst hx
            exact se_listRg (g.calm hcm) hg hm (ih.rg g _) (star_ok rfl)
          · split
            · rename_i hx
              subst hx
              exact se_tupRg (g.calm hcm) hg hm (ih.rg g _) (star_ok rfl)
            · exact se_fail
        · exact gen hs
    · split
      · exact se_fail
      · rename_i h1 h2
        cases args with
        | nil => exact absurd rfl h2
        | cons e es => exact gen hs
theorem snd_i (tg iter : Expr) : SI X (cI (n + 1) I tg iter).1 tg iter (cI (n + 1) I tg iter).2 := by
  unfold cI
  split
  · rename_i f p args pos
    split
    · rename_i hf
      subst hf
      dsimp only
      split
      · rename_i h
        rw [Bool.and_eq_true] at h
        obtain ⟨f1, f2, f3, f4⟩ := free_ok g h.1
        split
        · exact si_range1 f1 f2 (ih.e g _) (star_ok (by simpa using h.2))
        · have h3 := all2 h.2
          exact si_range2 f1 f2 (ih.e g _) (ih.e g _) (by rw [star_ok h3.1, star_ok h3.2]; rfl) (star_ok h3.2)
        · exact si_fail
      · exact si_fail
    · split
      · rename_i hf
        subst hf
        dsimp only
        split
        · rename_i h
          rw [Bool.and_eq_true] at h
          obtain ⟨f1, f2, f3, f4⟩ := free_ok g h.1
          split
          · have h3 := all2 h.2
            exact si_zip f1 f2 (ih.e g _) (ih.e g _) (star_ok h3.1) (star_ok h3.2) (back_any (by simpa using h3.2))
          · exact si_fail
        · exact si_fail
      · exact si_val (ih.e g _)
  · exact si_val (ih.e g _)
theorem snd_cp (elt : Expr) (gens : List Comprehension) (scope : Scope) (pos : Pos) : SE X (.ListComp elt gens scope pos) (cComp (n + 1) I elt gens scope) := by
  unfold cComp
  split
  · rename_i tg iter ifs
    split
    · rename_i h
      rw [Bool.and_eq_true, Bool.and_eq_true] at h
      have ok : BlkOk X.N X.env.scope scope (ownOf I.N scope) := by rw [g.N, g.sc]; exact blkOk_by h.1.2
      have G := fun s H C cl fp => g.blk ok.kind s H C cl fp
      exact se_lc (g.calm h.1.1) g.nd (ih.i g _ _) ok (fun s H C cl fp => snd_gw (G s H C cl fp) h.1.1) (fun s H C cl fp => ih.ts (G s H C cl fp) _) (fun s H C cl fp => ih.e (G s H C cl fp) _) (fold_ok h.2)
    · exact se_fail
  · exact se_fail
theorem snd_meth (o : Expr) (m : Str) (apos : Pos) (args : List Expr) (pos : Pos) : SE X (.Call (.Attribute o m apos) args [] pos) (if (notCall0 o && (apos.endLine == pos.line) && args.all notStar && decide (args.length < 28)) = true then (match mthPr m with
        | some (T, _, pr) => dMeth T pr (cE n I o) (cA n I args)
        | none => dFail) else dFail) := by
  split
  · rename_i h
    rw [Bool.and_eq_true, Bool.and_eq_true, Bool.and_eq_true, decide_eq_true_eq] at h
    obtain ⟨⟨⟨h1, h2⟩, h3⟩, h4⟩ := h
    split
    · rename_i T id pr hp
      have M := mthPr_ok (X := X) hp
      cases args with
      | nil =>
        cases n with
        | zero => exact se_false fun E τ S Q z => by unfold cE at z; exact z
        | succ m =>
          have q : cA (m + 1) I [] = dNil := by unfold cA; rfl
          rw [q]; exact se_meth0 M.pl M.sl M.ty M.md (ih.e g _) (base_ok h1) h2
      | cons e es =>
        have h3' := h3
        rw [List.all_cons, Bool.and_eq_true] at h3'
        refine se_meth M.pl M.sl M.ty M.md (ih.e g _) (ih.a g _) (base_ok h1) ?_ h2 (star_ok h3'.1) (back_any h3'.2)
        rw [Bool.and_eq_true, Bool.and_eq_true]
        refine ⟨⟨back_all h3, rfl⟩, decide_eq_true ?_⟩
        simp at h4 ⊢
        omega
    · exact se_fail
  · exact se_fail
theorem snd_e (e : Expr) : SE X e (cE (n + 1) I e) := by
  unfold cE
  split
  · exact snd_name g
  · exact snd_const
  · split
    · rename_i pr hp
      exact se_bin (opPr_ok hp) (ih.e g _) (ih.e g _)
    · exact se_fail
  · split
    · exact se_not (ih.e g _)
    · exact se_un ud_neg (ih.e g _)
    · exact se_fail
  · exact ih.bv g _ _ _
  · split
    · split
      · rename_i h
        split
        · rename_i pr hp
          exact se_cmp (cmpPr_ok g.un hp) (ih.e g _) (ih.e g _) (mark_ok h)
        · exact se_fail
      · exact se_fail
    · split
      · rename_i h
        split
        · rename_i pr pr' hp hp'
          exact se_chain (cmpPr_ok g.un hp) (cmpPr_ok g.un hp') (ih.e g _) (ih.e g _) (ih.e g _) (marks_ok h)
        · exact se_fail
      · exact se_fail
    · exact se_fail
  · exact se_if (ih.t g _) (ih.e g _) (ih.e g _)
  · exact se_lst (ih.a g _)
  · exact se_tup (ih.a g _)
  · split
    · exact se_slice (ih.e g _) (ih.o g _) (ih.o g _)
    · split
      · rename_i h
        exact se_ix ixd_any (ih.e g _) (ih.e g _) (ix_ok h)
      · exact se_fail
  · split
    · exact ih.call g _ _ _ _
    · exact snd_meth ih g _ _ _ _ _
    · exact se_fail
  · exact ih.cp g _ _ _ _
  · exact se_fail
end
theorem snd_all : ∀ n : Nat, Snd n
  | 0 => snd_zero
  | n + 1 => let ih := snd_all n; {
    e := fun g e => snd_e ih g e
    cp := fun g elt gens scope pos => snd_cp ih g elt gens scope pos
    bv := fun g op vs pos => snd_bv ih g op vs pos
    t := fun g e => snd_t ih g e
    bt := fun g op vs pos => snd_bt ih g op vs pos
    a := fun g es => snd_a ih g es
    o := fun g o => snd_o ih g o
    ts := fun g es => snd_ts ih g es
    rg := fun g e => snd_rg ih g e
    call := fun g x p args pos => snd_call ih g x p args pos
    blt := fun g hcm x p args pos h1 h2 h3 h4 h5 => snd_blt ih g hcm x p args pos h1 h2 h3 h4 h5
    i := fun g tg iter => snd_i ih g tg iter }
/-! ### try -/
theorem Rl.unset {K : PySem.W.Frag} {H0 H : Hp} {σ : L2.St} {τ : SDl} {S : SH} (r : Rl K H0 H σ τ S) (i : Nat) : Rl K H0 H (σ.set i none) (τ.set i none) S := by
  refine ⟨r.le, by rw [List.length_set, List.length_set]; exact r.len, fun j e q => ?_, r.ab⟩
  by_cases z : i = j
  · subst z
    by_cases lt : i < τ.length
    · rw [List.getElem?_set_self lt] at q; cases q
    · rw [List.getElem?_eq_none (by simpa using lt)] at q; cases q
  · rw [List.getElem?_set_ne z] at q ⊢
    exact r.sl j e q
section
variable {X : Cx} {x n : Str} {c : Value} {i : Nat} {body suite : List Stmt} {b0 : Stmt} {np pos pos' : Pos} {t : DS}
theorem ss_tryAs {u : Addr → Value → DS} {excs : List (Str × Addr)} (hs : X.stack = X.env :: X.outer) (hf : X.env.frame = some X.env.locals) (hN : X.N.Nodup) (hi : X.N[i]? = some n) (hln : X.env.kindOf n = some .local) (hc : Names X x c)
    (hb : ∀ pn xe, SSs (X.tr pn xe) body t) (hu : ∀ (a : Addr) (oe : Obj) (D : Addr) (pn : List (Addr × Obj)), (∃ y, excs.lookup y = some D) → Zc (.ref D) none oe → (∃ vs, oe.data = .fields vs) → SSs (X.suite a ((a, oe) :: pn)) (b0 :: suite) (u a (.ref D))) :
    SS X (.Try body [.ExceptHandler (some (.Name x np)) (some n) (b0 :: suite) pos'] [] [] pos) (dTryAs (fun cls => PySem.W.exmOne X.K cls c) excs i t u) := by
  intro po ED H0 tk
  refine ⟨_, ps_try_as (tb := fun W D σ H => ∀ pn xe, Takes (X.tr pn xe) W → PassesOwn (model X.prog X.w) X.A X.env xe → ∃ tt, PSs (X.tr pn xe) body tt ∧ tt D σ H)
    (ts := fun a cls d D σ H => ∀ oe pn, Zc cls d oe → (∃ vs, oe.data = .fields vs) → ∃ tt, PSs (X.suite a ((a, oe) :: pn)) (b0 :: suite) tt ∧ tt D σ H) hs hf hN hi hln hc tk
    (fun W pn xe tk' po' => ⟨fun pins s σ H D I h => let ⟨tt, p, q⟩ := h pn xe tk' po'; p.run pins s σ H D I q⟩)
    (fun a oe cls d pn hz hf' => ⟨fun pins s σ H D I h => let ⟨tt, p, q⟩ := h oe pn hz hf'; p.run pins s σ H D I q⟩), fun σ H τ S DD D' r h k => ?_⟩
  intro pn xe tk' po'
  obtain ⟨tt, p, kk⟩ := hb pn xe po' (asK (fun cls => PySem.W.exmOne X.K cls c) excs i u ED DD) H (tk'.imp fun cls d σ' H' hl => by
    obtain ⟨τ', S', fs, r', fr, z⟩ := hl
    unfold asK at z
    dsimp only at z
    show wAs X.K c i _ _ D' cls d σ' H'
    cases e : PySem.W.exmOne X.K cls c with
    | none => rw [e] at z; exact z.elim
    | some b =>
      rw [e] at z
      refine ⟨b, e, fun hb' a na => ?_, fun hb' => ?_⟩
      · subst hb'
        obtain ⟨rfl, ⟨y, D, hy, rfl⟩, z⟩ := z
        have hd : d = none := by
          cases d with
          | none => rfl
          | some a' => exact absurd rfl fr.1
        subst hd
        intro oe pn' hz hf'
        obtain ⟨tt', p', kk'⟩ := hu a oe D pn' ⟨y, hy⟩ hz hf' (fun _ _ z => z.elim) ek0 H takes_no
        refine ⟨tt', p', kk' _ H' _ S' _ _ (r'.set (.ref a)) (z a (r'.ab.free na)) ?_⟩
        have le := r'.le
        exact ⟨fun σ2 H2 τ2 S2 m2 r2 q2 => k.nx _ H2 _ S2 (le.trans m2) ⟨r.le.trans (le.trans m2), (r2.unset i).len, (r2.unset i).sl, r2.ab⟩ q2, fun v H2 d2 S2 m2 => k.rt v H2 d2 S2 (le.trans m2),
          fun σ2 H2 τ2 S2 m2 r2 q2 => k.bk _ H2 _ S2 (le.trans m2) ⟨r.le.trans (le.trans m2), (r2.unset i).len, (r2.unset i).sl, r2.ab⟩ q2, fun σ2 H2 τ2 S2 m2 r2 q2 => k.ct _ H2 _ S2 (le.trans m2) ⟨r.le.trans (le.trans m2), (r2.unset i).len, (r2.unset i).sl, r2.ab⟩ q2⟩
      · subst hb'
        exact ⟨τ', S', fs, ⟨r.le.trans r'.le, r'.len, r'.sl, r'.ab⟩, fr, z⟩)
  refine ⟨tt, p, kk σ H τ S DD D' ⟨HLe.rfl, r.len, r.sl, r.ab⟩ h ?_⟩
  exact ⟨fun σ2 H2 τ2 S2 m2 r2 q2 => k.nx _ H2 _ S2 m2 ⟨r.le.trans m2, r2.len, r2.sl, r2.ab⟩ q2, k.rt, fun σ2 H2 τ2 S2 m2 r2 q2 => k.bk _ H2 _ S2 m2 ⟨r.le.trans m2, r2.len, r2.sl, r2.ab⟩ q2, fun σ2 H2 τ2 S2 m2 r2 q2 => k.ct _ H2 _ S2 m2 ⟨r.le.trans m2, r2.len, r2.sl, r2.ab⟩ q2⟩
theorem ss_tryOnly {u : DS} (hs : X.stack = X.env :: X.outer) (hf : X.env.frame = some X.env.locals) (hc : Names X x c)
    (hb : ∀ pn xe, SSs (X.tr pn xe) body t) (hu : ∀ (a : Addr) (pn : List (Addr × Obj)), SSs (X.suite a pn) (b0 :: suite) u) :
    SS X (.Try body [.ExceptHandler (some (.Name x np)) none (b0 :: suite) pos'] [] [] pos) (dTryOnly (fun cls => PySem.W.exmOne X.K cls c) t u) := by
  intro po ED H0 tk
  refine ⟨_, ps_try_only (tb := fun W D σ H => ∀ pn xe, Takes (X.tr pn xe) W → PassesOwn (model X.prog X.w) X.A X.env xe → ∃ tt, PSs (X.tr pn xe) body tt ∧ tt D σ H)
    (ts := fun a cls d D σ H => ∀ oe pn, Zc cls d oe → (∃ vs, oe.data = .fields vs) → ∃ tt, PSs (X.suite a ((a, oe) :: pn)) (b0 :: suite) tt ∧ tt D σ H) hs hf hc tk
    (fun W pn xe tk' po' => ⟨fun pins s σ H D I h => let ⟨tt, p, q⟩ := h pn xe tk' po'; p.run pins s σ H D I q⟩)
    (fun a oe cls d pn hz hf' => ⟨fun pins s σ H D I h => let ⟨tt, p, q⟩ := h oe pn hz hf'; p.run pins s σ H D I q⟩), fun σ H τ S DD D' r h k => ?_⟩
  intro pn xe tk' po'
  obtain ⟨tt, p, kk⟩ := hb pn xe po' (onK (fun cls => PySem.W.exmOne X.K cls c) u ED DD) H (tk'.imp fun cls d σ' H' hl => by
    obtain ⟨τ', S', fs, r', fr, z⟩ := hl
    unfold onK at z
    dsimp only at z
    show wOnly X.K c _ _ D' cls d σ' H'
    cases e : PySem.W.exmOne X.K cls c with
    | none => rw [e] at z; exact z.elim
    | some b =>
      rw [e] at z
      refine ⟨b, e, fun hb' a na => ?_, fun hb' => ?_⟩
      · subst hb'
        intro oe pn' hz hf'
        obtain ⟨tt', p', kk'⟩ := hu a ((a, oe) :: pn') (fun _ _ z => z.elim) ek0 H takes_no
        refine ⟨tt', p', kk' _ H' _ S' _ _ r' z ?_⟩
        have le := r'.le
        exact ⟨fun σ2 H2 τ2 S2 m2 r2 q2 => k.nx _ H2 _ S2 (le.trans m2) ⟨r.le.trans (le.trans m2), r2.len, r2.sl, r2.ab⟩ q2, fun v H2 d2 S2 m2 => k.rt v H2 d2 S2 (le.trans m2),
          fun σ2 H2 τ2 S2 m2 r2 q2 => k.bk _ H2 _ S2 (le.trans m2) ⟨r.le.trans (le.trans m2), r2.len, r2.sl, r2.ab⟩ q2, fun σ2 H2 τ2 S2 m2 r2 q2 => k.ct _ H2 _ S2 (le.trans m2) ⟨r.le.trans (le.trans m2), r2.len, r2.sl, r2.ab⟩ q2⟩
      · subst hb'
        exact ⟨τ', S', fs, ⟨r.le.trans r'.le, r'.len, r'.sl, r'.ab⟩, fr, z⟩)
  refine ⟨tt, p, kk σ H τ S DD D' ⟨HLe.rfl, r.len, r.sl, r.ab⟩ h ?_⟩
  exact ⟨fun σ2 H2 τ2 S2 m2 r2 q2 => k.nx _ H2 _ S2 m2 ⟨r.le.trans m2, r2.len, r2.sl, r2.ab⟩ q2, k.rt, fun σ2 H2 τ2 S2 m2 r2 q2 => k.bk _ H2 _ S2 m2 ⟨r.le.trans m2, r2.len, r2.sl, r2.ab⟩ q2, fun σ2 H2 τ2 S2 m2 r2 q2 => k.ct _ H2 _ S2 m2 ⟨r.le.trans m2, r2.len, r2.sl, r2.ab⟩ q2⟩
/-- in a try's body -/
theorem Gd.tr {I : Inf} {k : Nat} (g : Gd I k X) (hx : I.calm = true) (pn : List (Addr × Obj)) (xe : Value → Shared → Prop) : Gd I k (X.tr pn xe) :=
  { N := g.N, nd := g.nd, sc := g.sc, calm := g.calm, un := g.un, stm := g.stm, kt := g.kt, xm := g.xm, kind := g.kind, room := g.room, fn := g.fn, free := g.free, consts := g.consts
    exc := fun en a cls z => by
      obtain ⟨X0, oe, pn', D, e, _⟩ := g.exc en a cls z
      have := g.calm hx
      rw [e] at this
      cases this
    fns := fun x sp h => let ⟨f⟩ := g.fns x sp h; ⟨f⟩
    excs := fun x C h => let ⟨a, b, c, d, e, f⟩ := g.excs x C h; ⟨a, b, c, d, e, f⟩ }
/-- in a suite -/
theorem Gd.suiteO {I : Inf} {k : Nat} (g : Gd I k X) (a : Addr) (pn : List (Addr × Obj)) : Gd { I with calm := false, exc := none } k (X.suite a pn) :=
  { N := g.N, nd := g.nd, sc := g.sc, un := g.un, stm := g.stm, kt := g.kt, xm := g.xm, kind := g.kind, fn := g.fn, free := g.free, consts := g.consts
    calm := fun z => by cases z
    room := fun z => by cases z
    exc := fun en a cls z => by cases z
    fns := fun x sp h => let ⟨f⟩ := g.fns x sp h; ⟨f⟩
    excs := fun x C h => let ⟨a, b, c, d, e, f⟩ := g.excs x C h; ⟨a, b, c, d, e, f⟩ }
theorem Gd.suiteE {I : Inf} {k : Nat} (g : Gd I k X) {a D : Addr} {oe : Obj} {pn : List (Addr × Obj)} {en : Str} (hD : ExcC X.K D) (hz : Zc (.ref D) none oe) (hf : ∃ vs, oe.data = .fields vs) : Gd { I with calm := false, exc := some (en, a, .ref D) } k (X.suite a ((a, oe) :: pn)) :=
  { N := g.N, nd := g.nd, sc := g.sc, un := g.un, stm := g.stm, kt := g.kt, xm := g.xm, kind := g.kind, fn := g.fn, free := g.free, consts := g.consts
    calm := fun z => by cases z
    room := fun z => by cases z
    exc := fun en' a' cls' z => by cases z; exact ⟨X, oe, pn, D, rfl, rfl, hD, hz, hf⟩
    fns := fun x sp h => let ⟨f⟩ := g.fns x sp h; ⟨f⟩
    excs := fun x C h => let ⟨a, b, c, d, e, f⟩ := g.excs x C h; ⟨a, b, c, d, e, f⟩ }
end
section
variable {I : Inf} {k : Nat} {X : Cx} (g : Gd I k X)
include g
theorem snd_g : ∀ (n : Nat), (∀ tg, SG X tg (cG n I tg)) ∧ ∀ tgs, SGs X tgs (cGs n I tgs)
  | 0 => ⟨fun _ => by unfold cG; exact sg_fail, fun _ => by unfold cGs; exact sgs_fail⟩
  | n + 1 => by
    obtain ⟨i1, i2⟩ := snd_g n
    refine ⟨fun tg => ?_, fun tgs => ?_⟩
    · unfold cG
      split
      · rename_i x _
        split
        · rename_i i e1
          split
          · rename_i c
            obtain ⟨l1, l2⟩ := loc_ok c
            rw [← g.sc] at l1 l2
            rw [← g.fn] at l2
            exact sg_name g.nd (by rw [g.N]; exact idx_ok e1) l1 l2
          · exact sg_fail
        · exact sg_fail
      · split
        · rename_i h
          rw [Bool.and_eq_true] at h
          obtain ⟨a1, a2⟩ := asg_len (env := X.env) h.1
          exact sg_tup (g.calm h.2) (i2 _) a1 a2
        · exact sg_fail
      · split
        · rename_i h
          exact sg_sub ((snd_all n).e g _) ((snd_all n).e g _) setd (sub_ok h)
        · exact sg_fail
      · exact sg_fail
    · unfold cGs
      split
      · exact sgs_nil
      · split
        · rename_i h
          exact sgs_cons (i1 _) (i2 _) (asg_map h)
        · exact sgs_fail
theorem snd_gy (n : Nat) (pr : Bool) (tg : Expr) : SGy X pr tg (cGy n I pr tg) := by
  unfold cGy
  split
  · rename_i hp
    subst hp
    split
    · split
      · rename_i h
        rw [Bool.and_eq_true, Bool.and_eq_true, decide_eq_true_eq] at h
        obtain ⟨a1, a2⟩ := asg_len (env := X.env) h.1.1
        exact sgy_tup (g.calm h.2) ((snd_g g n).2 _) (by rw [a1, h.1.2]) a2
      · exact sgy_fail
    · exact sgy_fail
  · rename_i hp
    have hp : pr = false := by simpa using hp
    subst hp
    exact ((snd_g g n).1 tg).y
omit g in
theorem ss_false {st : Stmt} {t : DS} (h : ∀ E DD τ S, ¬ t E DD τ S) : SS X st t := fun _ _ _ _ => ⟨tNever, ps_never, fun _ _ _ _ _ _ _ h' _ => (h _ _ _ _ h').elim⟩
omit g in
theorem swaps_lc {elt : Expr} {gens : List Comprehension} {scope : Scope} {p py : Pos} {y : Str} {l : Nat} {env : Env} : swapsWith (.ListComp elt gens scope p) (some (.Name y py)) l env =
    pure (env.blockKind == .function && env.kindOf y == some .local && py.line == p.line && !(scope.names.any fun (n, k) => n == y && (k == .local || k == .cell))) := rfl
theorem ss_setLC {n : Nat} {i : Nat} {y : Str} {py pos : Pos} {e : Expr} (hi : idx I.N y = some i) (hl : locB I.sc I.fn y = true) (hc : isLC e = true) : SS X (.Assign [.Name y py] e pos) (dAsg (cE n I e) (kName i)) := by
  obtain ⟨l1, l2⟩ := loc_ok hl
  rw [← g.sc] at l1 l2
  rw [← g.fn] at l2
  cases e with
  | ListComp elt gens scope p =>
    cases hb : (X.env.blockKind == .function && X.env.kindOf y == some .local && py.line == p.line && !(scope.names.any fun (n, k) => n == y && (k == .local || k == .cell))) with
    | false => exact ss_set g.nd (by rw [g.N]; exact idx_ok hi) l1 ((snd_all n).e g _) (by rw [swaps_lc, hb]) l2
    | true =>
      have hy : X.env.scope.names.lookup y = some .local := by
        rw [Bool.and_eq_true, Bool.and_eq_true, Bool.and_eq_true] at hb
        exact eq_of_beq hb.1.1.2
      match n with
      | 0 => exact ss_false fun E DD τ S z => by unfold cE at z; exact z
      | 1 => exact ss_false fun E DD τ S z => by unfold cE cComp at z; exact z
      | n + 2 =>
        have A := snd_all n
        have q : cE (n + 2) I (.ListComp elt gens scope p) = cComp (n + 1) I elt gens scope := by
          conv => lhs; unfold cE
        rw [q]
        unfold cComp
        split
        · rename_i tg iter ifs
          split
          · rename_i h
            rw [Bool.and_eq_true, Bool.and_eq_true] at h
            have ok : BlkOk X.N X.env.scope scope (ownOf I.N scope) := by rw [g.N, g.sc]; exact blkOk_by h.1.2
            have G := fun s H C cl fp => g.blk ok.kind s H C cl fp
            exact ss_setLc (g.calm h.1.1) g.nd (by rw [g.N]; exact idx_ok hi) hy (by rw [swaps_lc, hb]) (A.i g _ _) ok (fun s H C cl fp => snd_gw (G s H C cl fp) h.1.1) (fun s H C cl fp => A.ts (G s H C cl fp) _) (fun s H C cl fp => A.e (G s H C cl fp) _) (fold_ok h.2)
          · exact ss_false fun E DD τ S z => z
        · exact ss_false fun E DD τ S z => z
  | _ => cases hc
omit g in
theorem snd_s : ∀ (n : Nat) {I : Inf} {X : Cx}, Gd I k X → (∀ st, SS X st (cS n I st)) ∧ ∀ sts, SSs X sts (cSs n I sts)
  | 0, _, _, _ => ⟨fun _ => by unfold cS; exact ss_fail, fun _ => by unfold cSs; exact sss_fail⟩
  | n + 1, I, X, g => by
    obtain ⟨i1, i2⟩ := snd_s n g
    have A := snd_all n
    refine ⟨fun st => ?_, fun sts => ?_⟩
    · unfold cS
      split
      · exact ss_pass
      · exact ss_break
      · exact ss_cont
      · exact ss_retN
      · exact ss_ret (A.e g _)
      · split
        · exact ss_doc
        · split
          · rename_i h
            exact ss_expr (A.e g _) (swaps_ok h)
          · exact ss_fail
      · exact ss_if (A.t g _) (i2 _) (i2 _)
      · split
        · exact ss_while (A.t g _) (i2 _)
        · exact ss_fail
      · split
        · split
          · rename_i h
            rw [Bool.and_eq_true] at h
            exact ss_for (g.calm h.2) (A.i g _ _) (snd_gy g n _ _) (i2 _) (fold_ok h.1)
          · exact ss_fail
        · exact ss_fail
      · split
        · rename_i y py
          split
          · rename_i i hi
            split
            · rename_i hl
              split
              · rename_i hc
                obtain ⟨l1, l2⟩ := loc_ok hl
                rw [← g.sc] at l1 l2
                rw [← g.fn] at l2
                exact ss_set g.nd (by rw [g.N]; exact idx_ok hi) l1 (A.e g _) (swaps_ok hc) l2
              · split
                · rename_i hc
                  exact ss_setLC g hi hl hc
                · exact ss_fail
            · exact ss_fail
          · exact ss_fail
        · rename_i ts kt pt
          split
          · rename_i hs
            rw [Bool.and_eq_true] at hs
            obtain ⟨a1, a2⟩ := asg_len (env := X.env) hs.1
            have T : SG X (.Tuple ts kt pt) (kTup ts.length (cGs n I ts)) := sg_tup (g.calm hs.2) ((snd_g g n).2 _) a1 a2
            split
            · rename_i vs k2 p2
              split
              · rename_i hw
                exact ss_asg (A.e g _) T (sole_ok rfl) (sw_ok g.kind (by rw [g.sc]; exact hw)) (asg_map rfl)
              · rename_i names hw
                have hw := sw_ok (k := kt) (k2 := k2) (p := pt) (p2 := p2) g.kind (by rw [g.sc]; exact hw)
                split
                · rename_i x px y py a b _ _
                  split
                  · rename_i i j h1 h2
                    split
                    · rename_i c
                      simp only [Bool.and_eq_true, decide_eq_true_eq] at c
                      obtain ⟨⟨⟨c1, c2⟩, c3⟩, c4⟩ := c
                      rw [c1] at hw
                      exact ss_par (g.calm hs.2) g.nd (by rw [g.N]; exact idx_ok h1) (by rw [g.N]; exact idx_ok h2) c2 (by rw [g.sc]; exact c3) (by rw [g.sc]; exact c4) (A.a g _) hw (sole_ok rfl)
                    · exact ss_fail
                  · exact ss_fail
                · rename_i x px y py z pz a b c _ _
                  split
                  · rename_i i j l h1 h2 h3
                    split
                    · rename_i c
                      simp only [Bool.and_eq_true, decide_eq_true_eq] at c
                      obtain ⟨⟨⟨⟨⟨⟨c1, c2⟩, c3⟩, c4⟩, c5⟩, c6⟩, c7⟩ := c
                      rw [c1] at hw
                      exact ss_par3 (g.calm hs.2) g.nd (by rw [g.N]; exact idx_ok h1) (by rw [g.N]; exact idx_ok h2) (by rw [g.N]; exact idx_ok h3) c2 c3 c4 (by rw [g.sc]; exact c5) (by rw [g.sc]; exact c6) (by rw [g.sc]; exact c7) (A.a g _) hw (sole_ok rfl)
                    · exact ss_fail
                  · exact ss_fail
                · exact ss_fail
              · exact ss_fail
            · rename_i hne
              refine ss_asg (A.e g _) T (sole_ok rfl) (swapped_none ?_) (asg_map rfl)
              split
              · rename_i vs k2 p2; exact (hne vs k2 p2 rfl).elim
              · rfl
          · exact ss_fail
        · split
          · rename_i h
            exact ss_asg (A.e g _) (sg_sub (A.e g _) (A.e g _) setd (sub_ok h)) (sole_ok rfl) (swapped_none' rfl) (asg_map rfl)
          · exact ss_fail
        · exact ss_fail
      · split
        · rename_i h
          rw [Bool.and_eq_true, Bool.and_eq_true, Bool.and_eq_true] at h
          split
          · rename_i C hC
            obtain ⟨st1, st2⟩ := g.stm h.2
            have hN : Names X _ (.ref C) := ⟨gl_ok g.sc h.1.1.1, (nm_ok h.1.1.2).1, .inl (g.excs _ _ hC).g⟩
            split
            · rename_i en
              split
              · rename_i i hi
                split
                · rename_i hl
                  rw [show (fun cls => I.xm cls (.ref C)) = fun cls => PySem.W.exmOne X.K cls (.ref C) by rw [g.xm]]
                  exact ss_tryAs st1 st2 g.nd (by rw [g.N]; exact idx_ok hi) (by show X.env.scope.names.lookup en = _; rw [g.sc]; exact hl) hN (fun pn xe => (snd_s n (g.tr h.1.2 pn xe)).2 _)
                    (fun a oe D pn ⟨y, hy⟩ hz hf => (snd_s n (g.suiteE (g.excs y D hy).c hz hf)).2 _)
                · exact ss_fail
              · exact ss_fail
            · rw [show (fun cls => I.xm cls (.ref C)) = fun cls => PySem.W.exmOne X.K cls (.ref C) by rw [g.xm]]
              exact ss_tryOnly st1 st2 hN (fun pn xe => (snd_s n (g.tr h.1.2 pn xe)).2 _) (fun a pn => (snd_s n (g.suiteO a pn)).2 _)
          · exact ss_fail
        · exact ss_fail
      · split
        · rename_i h
          rw [Bool.and_eq_true, Bool.and_eq_true] at h
          split
          · rename_i C hC
            exact ss_raise0 (g.calm h.2) (g.excs _ _ hC) (gl_ok g.sc h.1.1) (nm_ok h.1.2).1
          · exact ss_fail
        · exact ss_fail
      · exact ss_fail
    · unfold cSs
      split
      · exact sss_nil
      · exact sss_one (i1 _)
      · exact sss_cons (i1 _) (i2 _)
end
end DL

set_option Elab.async false
set_option linter.all false
set_option maxRecDepth 100000
set_option maxHeartbeats 4000000
namespace DL
open PySem PySem.Spec PyProof.Rows L2

/-! ### a def of the module keeps its promise -/
section
variable (P : Program) (w : World) (K : PySem.W.Frag) (mg : Str → Option Value) (base : Heap)
/-- the module's name x is a def that keeps sp -/
structure FnAt (k : Nat) (x : Str) (sp : DSp) : Prop where
  ex : ∃ (f : Addr) (fd : FuncData) (ps : List Str), FnOk P w K mg base (L2.CX P w) k f fd ps (lift K sp) ∧ mg x = some (.ref f) ∧ PySem.W.keepIn K (.ref f) = true ∧ Binds K fd ps []
structure XcAt (x : Str) (C : Addr) : Prop where
  q : PySem.W.excIn K C [.type "ValueError", .type "Exception", .type "BaseException", .type "object"] "ValueError.__new__" = true
  g : mg x = some (.ref C)
  k : PySem.W.keepIn K (.ref C) = true
  b : PySem.W.subIn K (.ref C) (.type "BaseException") = some true
  t : PySem.W.typeIn K (.ref C) = some (.type "type")
  c : ExcC K C
/-- what the module holds beside its defs -/
structure Wo (free : List Str) (consts : List (Str × D)) (excs : List (Str × Addr)) : Prop where
  free : ∀ x, x ∈ free → mg x = none
  consts : ∀ x d, consts.lookup x = some d → ∃ v w, mg x = some w ∧ RelV v w ∧ ∀ H, Dt K H d v
  excs : ∀ x C, excs.lookup x = some C → XcAt K mg x C
def Fns (k : Nat) (l : List (Str × DSp)) : Prop := ∀ x sp, l.lookup x = some sp → FnAt P w K mg base k x sp
end
section
variable {P : Program} {w : World} {K : PySem.W.Frag} {mg : Str → Option Value} {base : Heap}
theorem FnAt.mono {j k : Nat} {x : Str} {sp : DSp} (h : FnAt P w K mg base j x sp) (l : j ≤ k) : FnAt P w K mg base k x sp := by
  obtain ⟨f, fd, ps, F, h1, h2, h3⟩ := h.ex
  exact ⟨f, fd, ps, F.mono l, h1, h2, h3⟩
theorem lift.imp {sp sp' : DSp} (h : ∀ ds S Q E, sp' ds S Q E → sp ds S Q E) : ∀ vs H Q E, lift K sp' vs H Q E → lift K sp vs H Q E := fun vs H Q E ⟨ds, S, QD, ED, a, d, q, k, e⟩ => ⟨ds, S, QD, ED, a, d, h _ _ _ _ q, k, e⟩
theorem FnAt.imp {k : Nat} {x : Str} {sp sp' : DSp} (h : FnAt P w K mg base k x sp) (i : ∀ ds S Q E, sp' ds S Q E → sp ds S Q E) : FnAt P w K mg base k x sp' := by
  obtain ⟨f, fd, ps, F, h1, h2, h3⟩ := h.ex
  exact ⟨f, fd, ps, F.imp (lift.imp i), h1, h2, h3⟩
theorem Fns.nil {k : Nat} : Fns P w K mg base k [] := fun _ _ e => by cases e
theorem Fns.cons {j k : Nat} {x : Str} {sp : DSp} {l : List (Str × DSp)} (h : FnAt P w K mg base j x sp) (le : j ≤ k) (r : Fns P w K mg base k l) : Fns P w K mg base k ((x, sp) :: l) := fun y s e => by
  rw [List.lookup_cons] at e
  split at e
  · rename_i q
    cases e
    rw [eq_of_beq q]
    exact h.mono le
  · exact r y s e
theorem free_nil : ∀ x : Str, x ∈ ([] : List Str) → mg x = none := fun _ h => by cases h
theorem free_cons {y : Str} {l : List Str} (h : mg y = none) (r : ∀ x, x ∈ l → mg x = none) : ∀ x, x ∈ y :: l → mg x = none := fun x hx => by
  rcases List.mem_cons.mp hx with e | e
  · rw [e]; exact h
  · exact r x e
abbrev ConstAt (K : PySem.W.Frag) (mg : Str → Option Value) (x : Str) (d : D) : Prop := ∃ v w, mg x = some w ∧ RelV v w ∧ ∀ H, Dt K H d v
theorem const_int {x : Str} {i : Int} (h : ∃ t, mg x = some (.int i t)) : ConstAt K mg x (.int i) := let ⟨t, e⟩ := h; ⟨.int i, _, e, ⟨t, rfl⟩, fun _ => .int i⟩
theorem const_str {x z : Str} (h : ∃ t, mg x = some (.str z t)) : ConstAt K mg x (.str z) := let ⟨t, e⟩ := h; ⟨.str z, _, e, ⟨t, rfl⟩, fun _ => .str z⟩
theorem consts_nil : ∀ (x : Str) (d : D), ([] : List (Str × D)).lookup x = some d → ConstAt K mg x d := fun _ _ e => by cases e
theorem consts_cons {y : Str} {e : D} {l : List (Str × D)} (h : ConstAt K mg y e) (r : ∀ x d, l.lookup x = some d → ConstAt K mg x d) : ∀ x d, ((y, e) :: l).lookup x = some d → ConstAt K mg x d := fun x d q => by
  rw [List.lookup_cons] at q
  split at q
  · rename_i z
    cases q
    rw [eq_of_beq z]
    exact h
  · exact r x d q
theorem excs_nil : ∀ (x : Str) (C : Addr), ([] : List (Str × Addr)).lookup x = some C → XcAt K mg x C := fun _ _ e => by cases e
theorem excs_cons {y : Str} {A : Addr} {l : List (Str × Addr)} (h : XcAt K mg y A) (r : ∀ x d, l.lookup x = some d → XcAt K mg x d) : ∀ x d, ((y, A) :: l).lookup x = some d → XcAt K mg x d := fun x d q => by
  rw [List.lookup_cons] at q
  split at q
  · rename_i z
    cases q
    rw [eq_of_beq z]
    exact h
  · exact r x d q
/-- THE RULE for a def of the module -/
theorem def_okF {q : Str} {params : Arguments} {body : List Stmt} {scope : Scope} {f : Addr} {fd : FuncData} {N ps : List Str} {k n : Nat} {sp : DSp} {t : DS} {fns : List (Str × DSp)} {free : List Str} {consts : List (Str × D)} {excs : List (Str × Addr)}
    (F : FunD K q q params body scope [] [] f fd) (hm : mg q = some (.ref f)) (W : Wo K mg free consts excs) (hS : FnScope N ps scope) (hb : Binds K fd ps []) (hf : Fns P w K mg base k fns)
    (len : ∀ ds S Q E, sp ds S Q E → ds.length = ps.length) (ht : cSs n ⟨N, scope, fun _ => true, fns, free, consts, excs, true, true, none, PySem.W.kitOne K, PySem.W.exmOne K⟩ body = t) (hw : bodyW N t sp) : FnOk P w K mg base (L2.CX P w) (k + 1) f fd ps (lift K sp) := by
  subst ht
  refine fn_ok F hS len (fun cdv A outer s H E hr => ?_) hw
  refine (snd_s (k := k) n (X := cxOf (L2.CX P w) P w K mg base N q scope f cdv A outer s H E) { N := rfl, nd := hS.nd, sc := rfl, calm := fun _ => rfl, un := (by have := hr.un; show (A.deeper (envOfC q scope s.heap.objs.size f cdv)).units + 100 < cLine; omega), stm := fun _ => ⟨rfl, rfl⟩, kt := rfl, xm := rfl, exc := fun _ _ _ z => (by cases z), kind := hS.kind, room := fun _ => hr, fn := rfl, fns := fun x sp h => ?_, free := W.free, consts := W.consts, excs := fun x C h => ?_ }).2 body
  · obtain ⟨e⟩ := hf x sp h
    exact ⟨e⟩
  · obtain ⟨a, b, c, d, e, f⟩ := W.excs x C h
    exact ⟨a, b, c, d, e, f⟩
/-- .. by its name -/
theorem def_ok {q : Str} {params : Arguments} {body : List Stmt} {scope : Scope} {f : Addr} {fd : FuncData} {N ps : List Str} {k n : Nat} {sp : DSp} {t : DS} {fns : List (Str × DSp)} {free : List Str} {consts : List (Str × D)} {excs : List (Str × Addr)}
    (F : FunD K q q params body scope [] [] f fd) (hm : mg q = some (.ref f)) (W : Wo K mg free consts excs) (hS : FnScope N ps scope) (hb : Binds K fd ps []) (hf : Fns P w K mg base k fns)
    (len : ∀ ds S Q E, sp ds S Q E → ds.length = ps.length) (ht : cSs n ⟨N, scope, fun _ => true, fns, free, consts, excs, true, true, none, PySem.W.kitOne K, PySem.W.exmOne K⟩ body = t) (hw : bodyW N t sp) : FnAt P w K mg base (k + 1) q sp :=
  ⟨f, fd, ps, def_okF F hm W hS hb hf len ht hw, hm, F.kp, hb⟩
/-- nothing is promised -/
def sp_no : DSp := fun _ _ _ _ => False
theorem def_no {q : Str} {params : Arguments} {body : List Stmt} {scope : Scope} {f : Addr} {fd : FuncData} {ps : List Str} {k : Nat} {sp : DSp} (F : FunD K q q params body scope [] [] f fd) (hm : mg q = some (.ref f)) (hb : Binds K fd ps []) (no : ∀ ds S Q E, ¬ sp ds S Q E) : FnAt P w K mg base k q sp :=
  ⟨f, fd, ps, ⟨fun vs H Q E ⟨_, _, _, _, _, _, z, _⟩ => (no _ _ _ _ z).elim, fun A outer s H args us vs Q E _ _ _ _ ⟨_, _, _, _, _, _, z, _⟩ => (no _ _ _ _ z).elim⟩, hm, F.kp, hb⟩
end
/-! ### the law's own def, called from nowhere -/
section
variable {P : Program} {w : World} {K : PySem.W.Frag}
theorem CX_no {H : Hp} {s s' : Shared} {e : Value} (h : L2.CX P w [] H s (fun _ _ _ => False) e s') : False := by
  obtain ⟨_, _, _, _, _, _, _, _, _, _, _, _, z⟩ := h
  exact z
/-- exceptions, of whatever world -/
def CXw : CXT := fun outer H s E u s' => ∃ (P : Program) (w : World), L2.CX P w outer H s E u s'
theorem CXw_no {H : Hp} {s s' : Shared} {e : Value} (h : CXw [] H s (fun _ _ _ => False) e s') : False := let ⟨_, _, z⟩ := h; CX_no z
theorem fnOk_w {mg : Str → Option Value} {base : Heap} {k : Nat} {f : Addr} {fd : FuncData} {ps : List Str} {sp : Sp} (F : FnOk P w K mg base (L2.CX P w) k f fd ps sp) : FnOk P w K mg base CXw k f fd ps sp :=
  ⟨F.len, fun A outer s H args us vs Q E hr he hb hv hs => codeAny_mono (F.run A outer s H args us vs Q E hr he hb hv hs) fun r s' h => by
    cases r with
    | error e => exact ⟨P, w, h⟩
    | ok fl => cases fl <;> exact h⟩
theorem fro_of {H : Hp} {a : Addr} {xs : List V} (hO : L2.Only H) (h : SqL K H a xs) : FroAt K H a xs := by
  rcases h with (h | h) | h
  · rcases hO a with z | ⟨o, ys, z⟩ <;> (rw [h] at z; cases z)
  · exact .inl h
  · exact .inr h
/-- the law's promise from the layer's -/
theorem law_lift {sp : DSp} {H : Hp} {a : Addr} {ns : List Int} (hO : L2.Only H) (hS : SqL K H a (ns.map V.int)) (h : sp [.fro (ns.map D.int)] (fun _ => none) (fun d _ => d = .bl true) xk0) :
    lift K sp [.ref a] H (fun v _ => v = .bl true) fun _ _ _ => False :=
  ⟨[.fro (ns.map D.int)], fun _ => none, fun d _ => d = .bl true, xk0, (fun _ _ e => by cases e), DtL.cons (.fro (fro_of hO hS) (dtl_ints ns)) .nil, h, (fun v H' d S' _ _ dv e => by
    subst e; cases dv; rfl), fun _ _ _ _ _ _ _ _ z => z⟩
end

/-! ### the head's facts: He's, and a truth of one's own -/
open He in
def obsM (fa : List Fa) (fn : List DefD) (ex : PySem.W.Frag → Bool) (K : PySem.W.Frag) : AlD × Bool := (obsD fa fn K, ex K)
open He in
def obsMG (n : Nat) (fa : List Fa) (fn : List DefD) (ex : PySem.W.Frag → Bool) (g : Addr → Option Obj) : AlD × Bool := obsM fa fn ex (frG g (asD g n))
open He in
def hookM (n : Nat) (fa : List Fa) (fn : List DefD) (ex : PySem.W.Frag → Bool) : PySem.W.Hook where
  α := AlD × Bool
  obs := fun s => obsMG n fa fn ex s.heap.get?
  val := fun _ => (valD fn, true)
  says := fun _ h => ∃ K : PySem.W.Frag, K.In h ∧ SaysD fa fn K ∧ ex K = true
  of := fun _ _ e => ⟨_, frG_in, congrArg (fun z : AlD × Bool => z.1) e, congrArg (fun z : AlD × Bool => z.2) e⟩
  keeps := fun _ _ _ ⟨K, hK, c⟩ k => ⟨K, PySem.W.Frag.In.keeps hK k, c⟩
theorem obsMG_eq {n : Nat} {fa : List He.Fa} {fn : List He.DefD} {ex : PySem.W.Frag → Bool} {g : Addr → Option Obj} {s : Shared} (h : ∀ a, g a = s.heap.get? a) : obsMG n fa fn ex g = (hookM n fa fn ex).obs s := by
  have e : g = s.heap.get? := funext h
  rw [e] <;> rfl
/-- the class D tells isinstance what it wants -/
def excCB (K : PySem.W.Frag) (D : Addr) : Bool :=
  decide (PySem.W.findIn K (.ref D) "__getattribute__" = some (some (.builtin "BaseException.__getattribute__"))) && (decide (PySem.W.findIn K (.ref D) "__getattr__" = some none) && (decide (PySem.W.subIn K (.ref D) (.type "BaseException") = some true) &&
  (PySem.W.hasDictIn K D && (decide (PySem.W.findIn K (.ref D) "__class__" = some (some (.builtin "object.__class__"))) && (decide (PySem.W.specialIn K (.builtin "object.__class__") "__get__" = some (some (.builtin "getset_descriptor.__get__"))) &&
  (decide (PySem.W.takesIn K (.builtin "object.__class__") = some true) && decide (PySem.W.mroIn K D (.type "object") = some true)))))))
theorem excCB_ok {K : PySem.W.Frag} {D : Addr} (h : excCB K D = true) : ExcC K D := by
  unfold excCB at h
  simp only [Bool.and_eq_true, decide_eq_true_eq] at h
  obtain ⟨h1, h2, h3, h4, h5, h6, h7, h8⟩ := h
  exact ⟨h1, h2, h3, h4, h5, h6, h7, h8⟩
/-- own classes: xs, each in each -/
def exB (xs : List Str) (K : PySem.W.Frag) : Bool := xs.all fun x => excCB K (He.ga K x)
theorem exB_ok {xs : List Str} {K : PySem.W.Frag} (h : exB xs K = true) {x : Str} (hx : x ∈ xs) : ExcC K (He.ga K x) := excCB_ok (List.all_eq_true.mp h x hx)
theorem kit_of_exm {K : PySem.W.Frag} {t c : Value} (h : PySem.W.exmOne K t c = some true) : PySem.W.kitOne K t c = some true := by
  unfold PySem.W.exmOne at h
  unfold PySem.W.kitOne
  split
  · rfl
  · split at h
    · exact h
    · cases h
theorem kit_of_exmF {K : PySem.W.Frag} {t c : Value} (h : PySem.W.exmOne K t c = some false) (n : t ≠ c) : PySem.W.kitOne K t c = some false := by
  unfold PySem.W.exmOne at h
  unfold PySem.W.kitOne
  split
  · rename_i z; exact absurd (eq_of_beq z) n
  · split at h
    · exact h
    · cases h
theorem xc_at {K : PySem.W.Frag} {h : Heap} {mg : Str → Option Value} (X : K.In h) (G : h.Ns mainGlobals mg) {x : Str} (g : (He.Fa.glo x).ok K = true) (c : (He.Fa.exc x).ok K = true) (e : ExcC K (He.ga K x)) : XcAt K mg x (He.ga K x) := by
  obtain ⟨a, b, c, d⟩ := He.exc_ok c
  exact ⟨a, He.glo_ok X G g, b, c, d, e⟩
end DL

set_option Elab.async false
set_option linter.all false
set_option maxRecDepth 100000
set_option maxHeartbeats 4000000
namespace DL
open PySem PySem.Spec PyProof.Rows L2

theorem nr {α : Sort _} {a b : α} (h : a = b) : a = b := h
/-! ### the readings, as rewriting rules -/
section
variable {E : EK} {τ : SDl} {S : SH} {Q : QE} {DD : DEnds} {d : D} {i : Nat}
@[simp] theorem dVar_eq : dVar i E τ S Q = (match τ[i]? with | some (some d) => Q d S | _ => False) := nr rfl
@[simp] theorem dC_eq : dC d E τ S Q = Q d S := nr rfl
@[simp] theorem dBin_eq {pr ta tb} : dBin pr ta tb E τ S Q = ta E τ S fun x S1 => tb E τ S1 fun y S2 => resW (pr x y S2) S2 Q := nr rfl
@[simp] theorem isB_bl {Q : Bool → SH → Prop} {b : Bool} : isB Q (.bl b) S = Q b S := nr rfl
@[simp] theorem dTst_eq {te Q} : dTst te E τ S Q = te E τ S (isB Q) := nr rfl
@[simp] theorem dAndT_eq {t u Q} : dAndT t u E τ S Q = t E τ S fun b S1 => if b = true then u E τ S1 Q else Q false S1 := nr rfl
@[simp] theorem dOrT_eq {t u Q} : dOrT t u E τ S Q = t E τ S fun b S1 => if b = true then Q true S1 else u E τ S1 Q := nr rfl
@[simp] theorem dNotT_eq {t Q} : dNotT t E τ S Q = t E τ S fun b S1 => Q (!b) S1 := nr rfl
@[simp] theorem dAnd_eq {ta tb} : dAnd ta tb E τ S Q = ta E τ S (isB fun b S1 => if b = true then tb E τ S1 Q else Q (.bl false) S1) := nr rfl
@[simp] theorem dOr_eq {ta tb} : dOr ta tb E τ S Q = ta E τ S (isB fun b S1 => if b = true then Q (.bl true) S1 else tb E τ S1 Q) := nr rfl
@[simp] theorem dNot_eq {ta} : dNot ta E τ S Q = ta E τ S (isB fun b S1 => Q (.bl (!b)) S1) := nr rfl
@[simp] theorem dIf_eq {t ta tb} : dIf t ta tb E τ S Q = t E τ S fun b S1 => if b = true then ta E τ S1 Q else tb E τ S1 Q := nr rfl
@[simp] theorem dNil_eq {Q} : dNil E τ S Q = Q [] S := nr rfl
@[simp] theorem dCons_eq {te ts Q} : dCons te ts E τ S Q = te E τ S fun x S1 => ts E τ S1 fun xs S2 => Q (x :: xs) S2 := nr rfl
theorem len_small {α : Type} {l : List α} (h : l.length ≤ 1000) : l.length ≤ sizeLine := Nat.le_trans h (by decide)
@[simp] theorem dLst_eq {ts} : dLst ts E τ S Q = ts E τ S fun xs S1 => xs.length ≤ sizeLine ∧ ∀ p, S1 p = none → Q (.ref p) (sup S1 p (.lst xs)) := nr rfl
@[simp] theorem dTup_eq {ts} : dTup ts E τ S Q = ts E τ S fun xs S1 => xs.length ≤ sizeLine ∧ Q (.tup xs) S1 := nr rfl
@[simp] theorem dCB_eq {pr ts} : dCB pr ts E τ S Q = ts E τ S fun xs S1 => resW (pr xs S1) S1 Q := nr rfl
@[simp] theorem dUn_eq {pr ta} : dUn pr ta E τ S Q = ta E τ S fun x S1 => resW (pr x S1) S1 Q := nr rfl
@[simp] theorem dChain_eq {pr pr' ta tb tc} : dChain pr pr' ta tb tc E τ S Q = ta E τ S fun x S1 => tb E τ S1 fun y S2 => resW (pr x y S2) S2 (isB fun b S3 =>
  if b = true then tc E τ S3 fun z S4 => resW (pr' y z S4) S4 Q else Q (.bl false) S3) := nr rfl
@[simp] theorem dNext_eq : dNext E DD τ S = DD.nx τ S := nr rfl
@[simp] theorem dSeq_eq {s1 s2} : dSeq s1 s2 E DD τ S = s1 E { DD with nx := fun τ' S' => s2 E DD τ' S' } τ S := nr rfl
@[simp] theorem dBreak_eq : dBreak E DD τ S = DD.bk τ S := nr rfl
@[simp] theorem dCont_eq : dCont E DD τ S = DD.ct τ S := nr rfl
@[simp] theorem dExpr_eq {te} : dExpr te E DD τ S = te E τ S fun _ S1 => DD.nx τ S1 := nr rfl
@[simp] theorem dRet_eq {te} : dRet te E DD τ S = te E τ S fun d S1 => wk (DD.rt d) S1 := nr rfl
@[simp] theorem dRetN_eq : dRetN E DD τ S = wk (DD.rt .non) S := nr rfl
@[simp] theorem dIfS_eq {t s1 s2} : dIfS t s1 s2 E DD τ S = t E τ S fun b S1 => if b = true then s1 E DD τ S1 else s2 E DD τ S1 := nr rfl
@[simp] theorem kName_eq {Q} : kName i d E τ S Q = Q (τ.set i (some d)) S := nr rfl
@[simp] theorem kNil_eq {Q} : kNil [] E τ S Q = Q τ S := nr rfl
@[simp] theorem kCons_eq {g gs Q} {ds : List D} : kCons g gs (d :: ds) E τ S Q = g d E τ S fun τ' S' => gs ds E τ' S' Q := nr rfl
@[simp] theorem kTup_eq {n gs Q} : kTup n gs d E τ S Q = (match itemsOf d S with | some l => l.length = n ∧ gs l E τ S Q | none => False) := nr rfl
@[simp] theorem items_tup {l} : itemsOf (.tup l) S = some l := nr rfl
@[simp] theorem items_fro {l} : itemsOf (.fro l) S = some l := nr rfl
theorem items_ref {p l} (h : S p = some (.lst l)) : itemsOf (.ref p) S = some l := by simp only [itemsOf, h]
@[simp] theorem kSub_eq {pr ta tb Q} : kSub pr ta tb d E τ S Q = ta E τ S fun o S1 => tb E τ S1 fun i S2 => resW (pr o i d S2) S2 fun _ S3 => Q τ S3 := nr rfl
@[simp] theorem dAsg_eq {te g} : dAsg te g E DD τ S = te E τ S fun d S1 => g d E τ S1 DD.nx := nr rfl
@[simp] theorem dPar_eq {i j ts} : dPar i j ts E DD τ S = ts E τ S fun ds S1 => match ds with
  | [d, e] => DD.nx ((τ.set i (some d)).set j (some e)) S1
  | _ => False := nr rfl
@[simp] theorem dPar3_eq {i j l ts} : dPar3 i j l ts E DD τ S = ts E τ S fun ds S1 => match ds with
  | [d, e, f] => DD.nx (((τ.set i (some d)).set j (some e)).set l (some f)) S1
  | _ => False := nr rfl
@[simp] theorem iVal_eq {te Q} : iVal te E τ S Q = te E τ S fun d S1 => match srcOf d S1 with | some src => Q src S1 | none => False := nr rfl
@[simp] theorem iRng1_eq {te Q} : iRng1 te E τ S Q = te E τ S fun d S1 => match d with | .int j => okR j ∧ Q (srcRng 0 j.toNat) S1 | _ => False := nr rfl
@[simp] theorem iRng2_eq {ta tb Q} : iRng2 ta tb E τ S Q = ta E τ S fun d S1 => tb E τ S1 fun d' S2 => match d, d' with | .int i, .int j => (okR i ∧ okR j) ∧ Q (srcRng i (j - i).toNat) S2 | _, _ => False := nr rfl
@[simp] theorem iZip2_eq {ta tb Q} : iZip2 ta tb E τ S Q = ta E τ S fun x S1 => tb E τ S1 fun y S2 => match zipOf x y S2 with | some src => Q src S2 | none => False := nr rfl
@[simp] theorem srcOf_tup {l} : srcOf (.tup l) S = some (srcSeq l) := nr rfl
@[simp] theorem srcOf_fro {l} : srcOf (.fro l) S = some (srcSeq l) := nr rfl
theorem srcOf_ref {p l} (h : S p = some (.lst l)) : srcOf (.ref p) S = some (srcLst p) := by simp only [srcOf, h]
@[simp] theorem zipOf_tup {l l'} : zipOf (.tup l) (.tup l') S = some (srcZip (srcSeq l) (srcSeq l')) := nr rfl
@[simp] theorem dFor_eq {si g s1} : dFor si g s1 E DD τ S = si E τ S fun src S1 => ∃ n, dForN src g s1 n 0 E DD τ S1 := nr rfl
@[simp] theorem dWhile_eq {t s1} : dWhile t s1 E DD τ S = ∃ n, dWhN t s1 n E DD τ S := nr rfl
@[simp] theorem dComp_eq {si g t te vs} : dComp si g t te vs E τ S Q = si E τ S fun src S1 => ∀ p, S1 p = none → ∃ n, dCompN src g t te p (wipeD τ vs) Q n 0 (sup S1 p (.lst [])) := nr rfl
@[simp] theorem dYes_eq {Q} : dYes E τ S Q = Q true S := nr rfl
@[simp] theorem dCall_eq {sp ts} : dCall sp ts E τ S Q = ts E τ S fun ds S1 => sp ds S1 Q fun cls fs S' => E cls fs τ S' := nr rfl
@[simp] theorem dRaise0_eq {C} : dRaise0 C E DD τ S = E (.ref C) [] τ S := nr rfl
@[simp] theorem dMeth_eq {T pr te ts} : dMeth T pr te ts E τ S Q = te E τ S fun x S1 => tyIs T x S1 = true ∧ ts E τ S1 fun xs S2 => resW (pr x xs S2) S2 Q := nr rfl
@[simp] theorem dIsi_eq {cs te} : dIsi cs te E τ S Q = te E τ S fun d S1 => match tyD d S1 with | some t => Q (.bl (isiAny t cs)) S1 | none => False := nr rfl
@[simp] theorem rg1_eq {te Q} : rg1 te E τ S Q = te E τ S fun d S1 => match d with | .int n => Q 0 n S1 | _ => False := nr rfl
@[simp] theorem rg2_eq {ta tb Q} : rg2 ta tb E τ S Q = ta E τ S fun d S1 => tb E τ S1 fun d' S2 => match d, d' with | .int i, .int j => Q i j S2 | _, _ => False := nr rfl
@[simp] theorem dListRg_eq {t} : dListRg t E τ S Q = t E τ S fun i j S1 => rgOk i j ∧ ∀ q, S1 q = none → Q (.ref q) (sup S1 q (.lst (rgD i j))) := nr rfl
@[simp] theorem dTupRg_eq {t} : dTupRg t E τ S Q = t E τ S fun i j S1 => rgOk i j ∧ Q (.tup (rgD i j)) S1 := nr rfl
@[simp] theorem dSlice_eq {te lo hi} : dSlice te lo hi E τ S Q = te E τ S fun x S1 => lo E τ S1 fun l S2 => hi E τ S2 fun h S3 => resW (pSlice x l h S3) S3 Q := nr rfl
@[simp] theorem oNone_eq {Q} : oNone E τ S Q = Q none S := nr rfl
@[simp] theorem oSome_eq {te Q} : oSome te E τ S Q = te E τ S fun d S' => match d with | .int i => Q (some i) S' | _ => False := nr rfl
@[simp] theorem dSortSet_eq {te} : dSortSet te E τ S Q = te E τ S fun d S1 => match d with
  | .tup l => (match D.ints l with
    | some ns => ns.length < 64 ∧ ∀ p, S1 p = none → Q (.ref p) (sup S1 p (.lst ((sortS ns).map D.int)))
    | none => False)
  | _ => False := nr rfl
/-! ### the operations -/
variable {m n : Int}
@[simp] theorem pAdd_int : pAdd (.int m) (.int n) S = .val (.int (m + n)) := nr rfl
@[simp] theorem pSub_int : pSub (.int m) (.int n) S = .val (.int (m - n)) := nr rfl
theorem pMul_int (h : b64 m = true ∨ b64 n = true) : pMul (.int m) (.int n) S = .val (.int (m * n)) := by
  have : (b64 m || b64 n) = true := by rcases h with h | h <;> simp [h]
  unfold pMul orR pMulI
  rw [pI_int, if_pos this]
theorem pDiv_int (h : 0 < n ∧ n < 1073741824) : pDiv (.int m) (.int n) S = .val (.int (m / n)) := by
  unfold pDiv; rw [pI_int, if_pos (by simpa using h)]
theorem pMod_int (h : 0 < n) : pMod (.int m) (.int n) S = .val (.int (m % n)) := by
  unfold pMod; rw [pI_int, if_pos (by simpa using h)]
@[simp] theorem pNeg_int : pNeg (.int m) S = .val (.int (-m)) := nr rfl
@[simp] theorem pLt_int : pLt (.int m) (.int n) S = .val (.bl (decide (m < n))) := nr rfl
@[simp] theorem pLe_int : pLe (.int m) (.int n) S = .val (.bl (decide (m ≤ n))) := nr rfl
@[simp] theorem pGt_int : pGt (.int m) (.int n) S = .val (.bl (decide (n < m))) := nr rfl
@[simp] theorem pGe_int : pGe (.int m) (.int n) S = .val (.bl (decide (n ≤ m))) := nr rfl
@[simp] theorem pEq_int {b : Bool} : pEq b (.int m) (.int n) S = .val (.bl (if b then !decide (m = n) else decide (m = n))) := by
  have h : pEq b (.int m) (.int n) S = .val (.bl (if b then !PyData.eqv (.int m) (.int n) else PyData.eqv (.int m) (.int n))) := nr rfl
  rw [h]
  have e : PyData.eqv (.int m) (.int n) = decide (m = n) := by show (m == n) = _; rfl
  rw [e]
@[simp] theorem pIs_non {b : Bool} : pIs b d .non S = .val (.bl (match d with | .non => !b | _ => b)) := nr rfl
@[simp] theorem pIs_bl {b a c : Bool} : pIs b (.bl a) (.bl c) S = .val (.bl (if b then !decide (a = c) else decide (a = c))) := nr rfl
@[simp] theorem pInt_int : pInt [.int m] S = .val (.int m) := nr rfl
@[simp] theorem pAbs_int : pAbs [.int m] S = .val (.int (if m < 0 then -m else m)) := nr rfl
@[simp] theorem pMax2_int : pMax2 [.int m, .int n] S = .val (.int (if n > m then n else m)) := nr rfl
@[simp] theorem pMin2_int : pMin2 [.int m, .int n] S = .val (.int (if n < m then n else m)) := nr rfl
@[simp] theorem pLen_tup {l} : pLen [.tup l] S = .val (.int l.length) := nr rfl
@[simp] theorem pLen_fro {l} : pLen [.fro l] S = .val (.int l.length) := nr rfl
theorem pLen_ref {p l} (h : S p = some (.lst l)) : pLen [.ref p] S = .val (.int l.length) := by simp only [pLen, items_ref h]
@[simp] theorem pList_tup {l} : pList [.tup l] S = .new (.lst l) := nr rfl
theorem pList_ref {p l} (h : S p = some (.lst l)) : pList [.ref p] S = .new (.lst l) := by simp only [pList, items_ref h]
theorem lstOf_ref {p l} (h : S p = some (.lst l)) : lstOf (.ref p) S = some l := by simp only [lstOf, h]
theorem lstAt_ref {p l} (h : S p = some (.lst l)) : lstAt S (.ref p) = some l := by simp only [lstAt, h]
@[simp] theorem pTuple_tup {l} : pTuple [.tup l] S = .val (.tup l) := nr rfl
theorem pTuple_ref {p l} (h : S p = some (.lst l)) : pTuple [.ref p] S = .val (.tup l) := by simp only [pTuple, lstOf_ref h]
theorem pSorted_ref {p} {ns : List Int} (h : S p = some (.lst (ns.map D.int))) : pSorted [.ref p] S = .new (.lst ((sortI ns).map D.int)) := by simp only [pSorted, lstOf_ref h, ints_map]
theorem pSum_ref {p} {ns : List Int} (h : S p = some (.lst (ns.map D.int))) : pSum [.ref p] S = .val (.int ns.sum) := by simp only [pSum, lstOf_ref h, ints_map]
theorem pAll_ref {p} {ns : List Bool} (h : S p = some (.lst (ns.map D.bl))) : pAll [.ref p] S = .val (.bl (ns.all id)) := by simp only [pAll, lstOf_ref h, bls_map]
theorem pAny_ref {p} {ns : List Bool} (h : S p = some (.lst (ns.map D.bl))) : pAny [.ref p] S = .val (.bl (ns.any id)) := by simp only [pAny, lstOf_ref h, bls_map]
theorem ixN_pos {k : Nat} {i : Int} (h : 0 ≤ i) (h' : i < k) : ixN k i = some i.toNat := by
  unfold ixN
  rw [if_pos h, if_pos (by omega)]
theorem pIx_seq {x : D} {l : List D} {i : Int} (h : itemsOf x S = some l) (h0 : 0 ≤ i) (h1 : i < l.length) : ∃ d, l[i.toNat]? = some d ∧ pIxA x (.int i) S = .val d := by
  have lt : i.toNat < l.length := by omega
  refine ⟨l[i.toNat], List.getElem?_eq_getElem lt, ?_⟩
  have : pIx x (.int i) S = .val l[i.toNat] := by
    simp only [pIx, h, atI, ixN_pos h0 h1]
    rw [show ((some i.toNat).bind fun j => l[j]?) = l[i.toNat]? from rfl, List.getElem?_eq_getElem lt]
  unfold pIxA orR
  rw [this]
theorem pIxA_of {x : D} {l : List D} {i : Int} {d : D} (h : itemsOf x S = some l) (h0 : 0 ≤ i) (hd : l[i.toNat]? = some d) : pIxA x (.int i) S = .val d := by
  have h1 : i < l.length := by
    by_cases z : i.toNat < l.length
    · omega
    · rw [List.getElem?_eq_none (by omega)] at hd; cases hd
  obtain ⟨e, h2, h3⟩ := pIx_seq h h0 h1
  rw [hd] at h2; cases h2; exact h3
theorem pSetIx_of {p : Addr} {l : List D} {i : Int} (h : S p = some (.lst l)) (h0 : 0 ≤ i) (h1 : i < l.length) : pSetIx (.ref p) (.int i) d S = .put .non p (.lst (l.set i.toNat d)) := by
  simp only [pSetIx, lstAt_ref h, ixN_pos h0 h1]
theorem tyIs_ref {p l} (h : S p = some (.lst l)) : tyIs "list" (.ref p) S = true := by simp only [tyIs, h]; rfl
theorem pAppend_of {p l} (h : S p = some (.lst l)) (z : l.length < sizeLine) : pAppend (.ref p) [d] S = .put .non p (.lst (l ++ [d])) := by simp only [pAppend, lstAt_ref h, if_pos z]
theorem pExtend_of {p q l l'} (h : S p = some (.lst l)) (h' : S q = some (.lst l')) (z : l.length + l'.length ≤ sizeLine) : pExtend (.ref p) [.ref q] S = .put .non p (.lst (l ++ l')) := by simp only [pExtend, lstAt_ref h, lstAt_ref h', if_pos z]
theorem pAdd_lst {p q l l'} (h : S p = some (.lst l)) (h' : S q = some (.lst l')) (z : l.length + l'.length ≤ sizeLine) : pAdd (.ref p) (.ref q) S = .new (.lst (l ++ l')) := by
  simp only [pAdd, orR, pAddI, pI, pAddS, pCatL, lstAt_ref h, lstAt_ref h', if_pos z]
theorem pRemove_of {p} {ns : List Int} {k : Int} (h : S p = some (.lst (ns.map D.int))) (z : k ∈ ns) : pRemove (.ref p) [.int k] S = .put .non p (.lst ((ns.erase k).map D.int)) := by simp only [pRemove, lstAt_ref h, ints_map, if_pos z]
theorem inF_ints {ns : List Int} {k : Int} : inF (.int k) (ns.map D.int) = decide (k ∈ ns) := by
  induction ns with
  | nil => rfl
  | cons n ns ih =>
    show (eqF (.int n) (.int k) || inF (.int k) (ns.map D.int)) = _
    rw [ih]
    show ((n == k) || _) = _
    by_cases e : n = k
    · subst e; simp
    · have : (n == k) = false := by simpa using e
      rw [this, Bool.false_or]
      by_cases h : k ∈ ns
      · simp [h]
      · simp [h, Ne.symm e]
theorem flat_ints {ns : List Int} : (ns.map D.int).all D.flat = true := by
  induction ns with
  | nil => rfl
  | cons n ns ih => show (true && _) = true; rw [Bool.true_and]; exact ih
theorem pIn_ints {x : D} {ns : List Int} {k : Int} {b : Bool} (h : itemsOf x S = some (ns.map D.int)) : pIn b (.int k) x S = .val (.bl (if b then !decide (k ∈ ns) else decide (k ∈ ns))) := by
  have : pInF b (.int k) x S = .val (.bl (if b then !decide (k ∈ ns) else decide (k ∈ ns))) := by
    simp only [pInF, h, flat_ints, inF_ints, D.flat, Bool.and_self, if_true]
  unfold pIn orR
  rw [this]
end

/-! ### the store -/
section
variable {S S' : SH} {p q : Addr} {o u : DO}
@[simp] theorem sup_self : sup S p o p = some o := sup_same
theorem sup_old (h : S q = some u) (hp : S p = none) : sup S p o q = some u := by
  rw [sup_ne]
  · exact h
  · intro z; subst z; rw [hp] at h; cases h
theorem none_of_sup (h : sup S p o q = none) : S q = none ∧ q ≠ p := by
  by_cases z : q = p
  · subst z; rw [sup_same] at h; cases h
  · rw [sup_ne z] at h; exact ⟨h, z⟩
/-- a new object aside -/
theorem SLe.put_new (h : SLe S S') (hp : S p = Option.none) : SLe S (DL.sup S' p o) := fun a v e => by
  rw [sup_ne]
  · exact h a v e
  · intro z; subst z; rw [hp] at e; cases e
end
/-! ### loops -/
section
variable {src : Src} {g : DG} {s1 : DS} {E : EK} {DD : DEnds}
theorem for_inv {τ : SDl} {S : SH} (l : List D) (I : Nat → SDl → SH → Prop) (h0 : I 0 τ S) (hsrc : ∀ i τ S, i ≤ l.length → I i τ S → src i S = some l[i]?)
    (hstep : ∀ i d τ S, l[i]? = some d → I i τ S → ∀ P : SDl → SH → Prop, (∀ τ' S', I (i + 1) τ' S' → P τ' S') →
      g d E τ S fun τ1 S1 => s1 E { nx := fun τ' S' => wk (P τ') S', rt := DD.rt, bk := DD.nx, ct := fun τ' S' => wk (P τ') S' } τ1 S1)
    (hend : ∀ τ S, I l.length τ S → DD.nx τ S) : ∃ n, dForN src g s1 n 0 E DD τ S := by
  have go : ∀ (m i : Nat) (τ : SDl) (S : SH), i + m = l.length → I i τ S → dForN src g s1 (m + 1) i E DD τ S := by
    intro m
    induction m with
    | zero =>
      intro i τ S e h
      unfold dForN
      rw [hsrc i τ S (by omega) h, List.getElem?_eq_none (by omega)]
      exact hend τ S (by rw [← e]; exact h)
    | succ m ih =>
      intro i τ S e h
      unfold dForN
      have lt : i < l.length := by omega
      rw [hsrc i τ S (by omega) h, List.getElem?_eq_getElem lt]
      exact hstep i l[i] τ S (List.getElem?_eq_getElem lt) h _ fun τ' S' h' => ih (i + 1) τ' S' (by omega) h'
  exact ⟨_, go l.length 0 τ S (by omega) h0⟩
theorem while_inv {t : DT} {τ : SDl} {S : SH} (I : Nat → SDl → SH → Prop) (n0 : Nat) (h0 : I n0 τ S)
    (hstep : ∀ n τ S, I n τ S → ∀ P : SDl → SH → Prop, (∀ m τ' S', m < n → I m τ' S' → P τ' S') →
      t E τ S fun b S1 => if b = true then s1 E { nx := fun τ' S' => wk (P τ') S', rt := DD.rt, bk := DD.nx, ct := fun τ' S' => wk (P τ') S' } τ S1 else DD.nx τ S1) : ∃ n, dWhN t s1 n E DD τ S := by
  have go : ∀ (k n : Nat) (τ : SDl) (S : SH), n < k → I n τ S → dWhN t s1 k E DD τ S := by
    intro k
    induction k with
    | zero => intro n τ S e; omega
    | succ k ih =>
      intro n τ S e h
      unfold dWhN
      exact hstep n τ S h _ fun m τ' S' lt h' => ih m τ' S' (by omega) h'
  exact ⟨n0 + 1, go (n0 + 1) n0 τ S (by omega) h0⟩
variable {t : DT} {te : DE} {Q : QE} {τ : SDl}
theorem comp_inv {p : Addr} {S : SH} (l : List D) (I : Nat → SH → Prop) (h0 : I 0 S) (hsrc : ∀ i S, i ≤ l.length → I i S → src i S = some l[i]?)
    (hstep : ∀ i d S, l[i]? = some d → I i S → ∀ P : SH → Prop, (∀ S', I (i + 1) S' → P S') →
      g d ek0 τ S fun τ1 S1 => t ek0 τ1 S1 fun b S2 => if b = true then te ek0 τ1 S2 fun y S3 => match S3 p with
        | some (.lst acc) => acc.length < sizeLine ∧ wk P (sup S3 p (.lst (acc ++ [y])))
        | _ => False
      else wk P S2)
    (hend : ∀ S, I l.length S → Q (.ref p) S) : ∃ n, dCompN src g t te p τ Q n 0 S := by
  have go : ∀ (m i : Nat) (S : SH), i + m = l.length → I i S → dCompN src g t te p τ Q (m + 1) i S := by
    intro m
    induction m with
    | zero =>
      intro i S e h
      unfold dCompN
      rw [hsrc i S (by omega) h, List.getElem?_eq_none (by omega)]
      exact hend S (by rw [← e]; exact h)
    | succ m ih =>
      intro i S e h
      unfold dCompN
      have lt : i < l.length := by omega
      rw [hsrc i S (by omega) h, List.getElem?_eq_getElem lt]
      exact hstep i l[i] S (List.getElem?_eq_getElem lt) h _ fun S' h' => ih (i + 1) S' (by omega) h'
  exact ⟨_, go l.length 0 S (by omega) h0⟩
/-- items give items (or none); the store only grows by what nobody looks at -/
theorem comp_fm {α : Type} {p : Addr} {S : SH} (xs : List α) (e : α → D) (f : α → Option D) (hp : S p = none) (hl : xs.length ≤ sizeLine) (hsrc : ∀ i S', i ≤ xs.length → SLe S S' → src i S' = some (xs.map e)[i]?)
    (hstep : ∀ x S', x ∈ xs → SLe S S' → ∀ (R : QE) (Rn : SH → Prop), (∀ S'', SLe S' S'' → match f x with | some y => R y S'' | none => Rn S'') →
      g (e x) ek0 τ S' fun τ1 S1 => t ek0 τ1 S1 fun b S2 => if b = true then te ek0 τ1 S2 R else Rn S2)
    (hend : Q (.ref p) (sup S p (.lst (xs.filterMap f)))) : ∃ n, dCompN src g t te p τ Q n 0 (sup S p (.lst [])) := by
  refine comp_inv (xs.map e) (fun i S' => S' = sup S p (.lst ((xs.take i).filterMap f))) (by simp) ?_ ?_ ?_
  · rintro i _ hi rfl
    exact hsrc i _ (by simpa using hi) (SLe.new hp)
  · rintro i d _ hd rfl P hP
    rw [List.getElem?_map] at hd
    cases q : xs[i]? with
    | none => rw [q] at hd; cases hd
    | some x =>
      rw [q] at hd
      cases hd
      have tk : xs.take (i + 1) = xs.take i ++ [x] := by rw [List.take_add_one, q]; rfl
      refine hstep x _ (List.mem_of_getElem? q) (SLe.new hp) _ _ fun S'' le => ?_
      have hf : (xs.take (i + 1)).filterMap f = (xs.take i).filterMap f ++ (f x).toList := by
        rw [tk, List.filterMap_append]
        cases z : f x <;> simp [z]
      cases z : f x with
      | none =>
        rw [z] at hf
        refine ⟨_, le, hP _ ?_⟩
        rw [hf]
        simp
      | some y =>
        have e1 := le p _ sup_same
        show (match S'' p with
          | some (.lst acc) => acc.length < sizeLine ∧ wk P (sup S'' p (.lst (acc ++ [y])))
          | _ => False)
        rw [e1]
        rw [z] at hf
        have lt : i < xs.length := by
          by_cases z : i < xs.length
          · exact z
          · rw [List.getElem?_eq_none (by omega)] at q; cases q
        have hlen : ((xs.take i).filterMap f).length ≤ i := Nat.le_trans (List.length_filterMap_le _ _) (by rw [List.length_take]; omega)
        refine ⟨by omega, sup S p (.lst ((xs.take i).filterMap f ++ [y])), ?_, hP _ ?_⟩
        · rw [← sup_sup (S := S) (o := .lst ((xs.take i).filterMap f))]
          exact SLe.sup le
        · rw [hf]; rfl
  · rintro _ rfl
    rw [List.length_map, List.take_length]
    exact hend
theorem comp_map {α : Type} {p : Addr} {S : SH} (xs : List α) (e f : α → D) (hp : S p = none) (hl : xs.length ≤ sizeLine) (hsrc : ∀ i S', i ≤ xs.length → SLe S S' → src i S' = some (xs.map e)[i]?)
    (hstep : ∀ x S', x ∈ xs → SLe S S' → ∀ R : QE, (∀ S'', SLe S' S'' → R (f x) S'') → g (e x) ek0 τ S' fun τ1 S1 => te ek0 τ1 S1 R)
    (hend : Q (.ref p) (sup S p (.lst (xs.map f)))) : ∃ n, dCompN src g dYes te p τ Q n 0 (sup S p (.lst [])) := by
  refine comp_fm xs e (fun x => some (f x)) hp hl hsrc (fun x S' hx le R Rn h => ?_) (by simpa using hend)
  exact hstep x S' hx le R h
end
end DL

set_option Elab.async false
set_option linter.all false
set_option maxRecDepth 100000
set_option maxHeartbeats 4000000
namespace DL
open PySem PySem.Spec PyProof.Rows L2

/-! ### what is known of data -/
def known (S : SH) (d : D) : Prop := ∃ t, tyD d S = some t
mutual
/-- every object in it is in the store -/
def okd (S : SH) : D → Prop
  | .ref a => ∃ o, S a = some o
  | .tup l => l.length ≤ sizeLine ∧ okdL S l
  | .fro l => okdL S l
  | _ => True
def okdL (S : SH) : List D → Prop
  | [] => True
  | d :: ds => okd S d ∧ okdL S ds
end
theorem okdL_iff {S : SH} : ∀ {l : List D}, okdL S l ↔ ∀ d ∈ l, okd S d
  | [] => by simp [okdL]
  | d :: l => by simp [okdL, okdL_iff (l := l)]
mutual
theorem okd.mono {S S' : SH} (m : SLe S S') : ∀ {d : D}, okd S d → okd S' d
  | .ref a, h => let ⟨o, e⟩ := (show ∃ o, S a = some o from h); show ∃ o, S' a = some o from ⟨o, m _ _ e⟩
  | .tup l, h => ⟨h.1, okdL.mono m (l := l) h.2⟩
  | .fro l, h => okdL.mono m (l := l) h
  | .non, _ => trivial
  | .bl _, _ => trivial
  | .int _, _ => trivial
  | .str _, _ => trivial
theorem okdL.mono {S S' : SH} (m : SLe S S') : ∀ {l : List D}, okdL S l → okdL S' l
  | [], _ => trivial
  | d :: l, h => ⟨okd.mono m h.1, okdL.mono m h.2⟩
end
theorem okd.known {S : SH} {d : D} (h : okd S d) : known S d := by
  cases d with
  | ref a =>
    obtain ⟨o, e⟩ := (show ∃ o, S a = some o from h)
    cases o with
    | lst l => exact ⟨"list", by simp only [tyD, e]⟩
  | _ => exact ⟨_, rfl⟩
theorem okd_ints {S : SH} {ns : List Int} : okdL S (ns.map D.int) := okdL_iff.mpr fun d hd => by
  obtain ⟨n, _, rfl⟩ := List.mem_map.mp hd
  exact trivial
def isInt : D → Bool | .int _ => true | _ => false
def isBl : D → Bool | .bl _ => true | _ => false
def isTup : D → Bool | .tup _ => true | _ => false
def isStr : D → Bool | .str _ => true | _ => false
def isLst : D → Bool | .ref _ => true | .fro _ => true | _ => false
section
variable {S : SH} {d : D} {t : String}
theorem ty_ref {a : Addr} (h : tyD (.ref a) S = some t) : t = "list" := by
  unfold tyD at h
  cases e : S a with
  | none => simp only [e] at h; cases h
  | some o => cases o; simp only [e] at h; cases h; rfl
theorem isi_int (h : tyD d S = some t) : isiAny t ["int"] = (isInt d || isBl d) := by
  cases d <;> first | (rw [ty_ref h]; rfl) | (cases h; rfl)
theorem isi_bool (h : tyD d S = some t) : isiAny t ["bool"] = isBl d := by
  cases d <;> first | (rw [ty_ref h]; rfl) | (cases h; rfl)
theorem isi_tup (h : tyD d S = some t) : isiAny t ["tuple"] = isTup d := by
  cases d <;> first | (rw [ty_ref h]; rfl) | (cases h; rfl)
theorem isi_str (h : tyD d S = some t) : isiAny t ["str"] = isStr d := by
  cases d <;> first | (rw [ty_ref h]; rfl) | (cases h; rfl)
theorem isi_tl (h : tyD d S = some t) : isiAny t ["tuple", "list"] = (isTup d || isLst d) := by
  cases d <;> first | (rw [ty_ref h]; rfl) | (cases h; rfl)
theorem isi_is (h : tyD d S = some t) : isiAny t ["int", "str"] = (isInt d || isBl d || isStr d) := by
  cases d <;> first | (rw [ty_ref h]; rfl) | (cases h; rfl)
end
/-! ### bags, books, halls -/
def eB (b : List Int) : D := .tup (b.map D.int)
def eH (h : List (List Int)) : D := .tup (h.map eB)
def inR (n : Int) (x : Int) : Bool := decide (0 ≤ x) && decide (x < n)
def bagB (b : List Int) (n : Int) : Bool := b.all (inR n) && (b.zip b.tail).all fun q => decide (q.1 ≤ q.2)
def risB (b : List Int) (n : Int) : Bool := bagB b n && (b.zip b.tail).all fun q => decide (q.1 < q.2)
def isW (d : D) (lo hi : Int) : Bool := match d with | .int i => decide (lo ≤ i) && decide (i ≤ hi) | _ => false
def deB : D → Option (List Int) | .tup l => D.ints l | _ => none
@[simp] theorem deB_eB {b : List Int} : deB (eB b) = some b := ints_map _
def deHs : List D → Option (List (List Int))
  | [] => some []
  | d :: ds => (match deB d, deHs ds with | some b, some h => some (b :: h) | _, _ => none)
def deH : D → Option (List (List Int)) | .tup l => deHs l | _ => none
theorem deHs_map {h : List (List Int)} : deHs (h.map eB) = some h := by
  induction h with
  | nil => rfl
  | cons b h ih => simp only [List.map_cons, deHs, deB_eB, ih]
@[simp] theorem deH_eH {h : List (List Int)} : deH (eH h) = some h := deHs_map
/-- a bag of cards below n -/
def asBag (d : D) (n : Int) : Option (List Int) := match deB d with | some b => if bagB b n then some b else none | none => none
def bookB (n : Int) (b : List Int) : Bool := bagB b n && decide (b.length ≤ 16)
def hallB (h : List (List Int)) : Bool := decide (1 ≤ h.length) && decide (h.length ≤ 12) && h.all (bookB h.length)
def asHall (d : D) : Option (List (List Int)) := match deH d with | some h => if hallB h then some h else none | none => none
def isBook (d : D) (n : Int) : Bool := match deB d with | some b => bookB n b | none => false
/-! ### the readings of the first defs -/
def sp_is_integer : DSp := fun ds S Q _ => match ds with | [d] => known S d ∧ Q (.bl (isInt d)) S | _ => False
def sp_is_within : DSp := fun ds S Q _ => match ds with | [d, .int lo, .int hi] => known S d ∧ Q (.bl (isW d lo hi)) S | _ => False
def isRow (d : D) (n : Int) : Bool := match d with | .tup l => decide ((l.length : Int) = n) && l.all isInt | _ => false
def sp_is_row_of : DSp := fun ds S Q _ => match ds with | [d, .int n] => okd S d ∧ Q (.bl (isRow d n)) S | _ => False
def sp_is_bag : DSp := fun ds S Q _ => match ds with | [d, .int n] => okd S d ∧ Q (.bl (asBag d n).isSome) S | _ => False
@[simp] theorem sp_is_integer_eq {d S Q E} : sp_is_integer [d] S Q E = (known S d ∧ Q (.bl (isInt d)) S) := rfl
@[simp] theorem sp_is_within_eq {d lo hi S Q E} : sp_is_within [d, .int lo, .int hi] S Q E = (known S d ∧ Q (.bl (isW d lo hi)) S) := rfl
@[simp] theorem sp_is_row_of_eq {d n S Q E} : sp_is_row_of [d, .int n] S Q E = (okd S d ∧ Q (.bl (isRow d n)) S) := rfl
@[simp] theorem sp_is_bag_eq {d n S Q E} : sp_is_bag [d, .int n] S Q E = (okd S d ∧ Q (.bl (asBag d n).isSome) S) := rfl
def t_is_integer : DS := (dRet (dAnd (dIsi ["int"] (dVar 0)) (dNot (dIsi ["bool"] (dVar 0)))))
theorem w_is_integer : bodyW ["thing"] t_is_integer sp_is_integer := by
  intro ds S Q E h
  unfold sp_is_integer at h
  split at h
  · rename_i d
    obtain ⟨⟨t, ht⟩, h⟩ := h
    show t_is_integer _ _ [some d] S
    simp [t_is_integer, ht, isi_int ht, isi_bool ht]
    cases d <;> simp [isInt, isBl] at h ⊢ <;> exact wk.of h
  · exact h.elim
def t_is_within : DS := (dRet (dAnd (dCall sp_is_integer (dCons (dVar 0) dNil)) (dChain pLe pLe (dVar 1) (dVar 0) (dVar 2))))
theorem w_is_within : bodyW ["thing", "low", "high"] t_is_within sp_is_within := by
  intro ds S Q E h
  unfold sp_is_within at h
  split at h
  · rename_i d lo hi
    obtain ⟨k, h⟩ := h
    show t_is_within _ _ [some d, some (.int lo), some (.int hi)] S
    simp [t_is_within, k]
    cases d <;> simp [isInt, isW] at h ⊢ <;> try exact wk.of h
    split
    · rename_i i z
      simp [z] at h
      exact wk.of h
    · rename_i i z
      simp [z] at h
      exact wk.of h
  · exact h.elim
/-- all([.. for x in ..]) -/
theorem all_comp {α : Type} {τ : SDl} {S : SH} {Q : QE} {g : DG} {te : DE} {src : Src} (xs : List α) (e : α → D) (P : α → Bool) (hl : xs.length ≤ sizeLine)
    (hsrc : ∀ i S', i ≤ xs.length → SLe S S' → src i S' = some (xs.map e)[i]?)
    (hstep : ∀ x S', x ∈ xs → SLe S S' → ∀ R : QE, (∀ S'', SLe S' S'' → R (.bl (P x)) S'') → g (e x) ek0 τ S' fun τ1 S1 => te ek0 τ1 S1 R)
    (hend : ∀ S', SLe S S' → Q (.bl (xs.all P)) S') : ∀ p, S p = none → ∃ n, dCompN src g dYes te p τ (fun x S1 => resW (pAll [x] S1) S1 Q) n 0 (sup S p (.lst [])) := fun p hp => by
  refine comp_map xs e (fun x => .bl (P x)) hp hl hsrc hstep ?_
  rw [pAll_ref (ns := xs.map P) (by rw [sup_same, List.map_map]; rfl), resW_val, List.all_map]
  exact hend _ (SLe.new hp)
def t_is_row_of : DS := (dRet (dAnd (dIsi ["tuple"] (dVar 0)) (dAnd (dBin (pEq false) (dCB pLen (dCons (dVar 0) dNil)) (dVar 1)) (dCB pAll (dCons (dComp (iVal (dVar 0)) (kName 2) dYes (dCall sp_is_integer (dCons (dVar 2) dNil)) [2]) dNil)))))
theorem w_is_row_of : bodyW ["thing", "many", "one"] t_is_row_of sp_is_row_of := by
  intro ds S Q E h
  unfold sp_is_row_of at h
  split at h
  · rename_i d n
    obtain ⟨k, h⟩ := h
    obtain ⟨t, ht⟩ := k.known
    show t_is_row_of _ _ [some d, some (.int n), none] S
    unfold t_is_row_of
    rw [dRet_eq, dAnd_eq, dIsi_eq]
    simp only [dVar_eq, List.getElem?_cons_zero, ht, isi_tup ht, isB_bl]
    cases d with
    | tup l =>
      simp only [isTup, if_true]
      rw [dAnd_eq]
      simp
      split
      · rename_i e
        refine all_comp l id isInt k.1 (fun i S' _ _ => by simp [srcSeq]) (fun x S' hx le R hR => ?_) (fun S' le => ⟨S, le, ?_⟩)
        · simp [wipeD]
          exact ⟨((okdL_iff.mp k.2 x hx).mono le).known, hR _ SLe.rfl⟩
        · simpa [isRow, e] using h
      · rename_i e
        simp [isRow, e] at h
        exact wk.of h
    | _ => simp [isTup, isRow] at h ⊢; exact wk.of h
  · exact h.elim
end DL

set_option Elab.async false
set_option linter.all false
set_option maxRecDepth 100000
set_option maxHeartbeats 4000000
namespace DL
open PySem PySem.Spec PyProof.Rows L2

/-! ### slices, pairs -/
theorem cut_from {α : Type} {l : List α} {k : Int} (h : 0 ≤ k) : cutD l (some k) none = l.drop k.toNat := by
  unfold cutD HT.sIx
  dsimp only
  rw [if_neg (by omega)]
  by_cases z : k.toNat ≤ l.length
  · rw [Nat.min_eq_left z]
    exact List.take_of_length_le (by rw [List.length_drop]; omega)
  · rw [Nat.min_eq_right (by omega), List.drop_eq_nil_of_le (Nat.le_refl _), List.drop_eq_nil_of_le (by omega)]
    simp
theorem cut_to {α : Type} {l : List α} {k : Int} (h : 0 ≤ k) : cutD l none (some k) = l.take k.toNat := by
  unfold cutD HT.sIx
  dsimp only
  rw [if_neg (by omega), List.drop_zero, Nat.sub_zero]
  by_cases z : k.toNat ≤ l.length
  · rw [Nat.min_eq_left z]
  · rw [Nat.min_eq_right (by omega), List.take_of_length_le (Nat.le_refl _), List.take_of_length_le (by omega)]
theorem zip_src {l l' : List D} {i : Nat} {S : SH} : srcZip (srcSeq l) (srcSeq l') i S = some ((l.zip l').map fun q => D.tup [q.1, q.2])[i]? := by
  unfold srcZip srcSeq
  rw [List.getElem?_map]
  cases a : l[i]? with
  | none =>
    have : (l.zip l')[i]? = none := by
      rw [List.getElem?_eq_none_iff] at a ⊢
      rw [List.length_zip]; omega
    rw [this]
    cases l'[i]? <;> rfl
  | some x =>
    cases b : l'[i]? with
    | none =>
      have : (l.zip l')[i]? = none := by
        rw [List.getElem?_eq_none_iff] at b ⊢
        rw [List.length_zip]; omega
      rw [this]; rfl
    | some y =>
      have : (l.zip l')[i]? = some (x, y) := List.getElem?_zip_eq_some.mpr ⟨a, b⟩
      rw [this]; rfl
theorem zip_ints {ns ms : List Int} {i : Nat} {S : SH} : srcZip (srcSeq (ns.map D.int)) (srcSeq (ms.map D.int)) i S = some ((ns.zip ms).map fun q => D.tup [.int q.1, .int q.2])[i]? := by
  rw [zip_src, List.zip_map, List.map_map]; rfl
theorem isW_inR {n x : Int} : isW (.int x) 0 (n - 1) = inR n x := by
  unfold isW inR
  dsimp only
  congr 1
  rw [decide_eq_decide]
  omega
theorem all_isW {n : Int} : ∀ {l : List D}, l.all (fun d => isW d 0 (n - 1)) = match D.ints l with | some ns => ns.all (inR n) | none => false
  | [] => rfl
  | d :: l => by
    rw [List.all_cons, all_isW (l := l)]
    cases d with
    | int i =>
      show (isW (.int i) 0 (n - 1) && _) = match (D.ints l).map (i :: ·) with | some ns => ns.all (inR n) | none => false
      rw [isW_inR]
      cases D.ints l with
      | none => simp
      | some ns => simp
    | _ => rfl
theorem asBag_tup {l : List D} {n : Int} : asBag (.tup l) n = match D.ints l with | some ns => if bagB ns n then some ns else none | none => none := rfl
def t_is_bag : DS := (dSeq (dIfS (dOrT (dNotT (dTst (dIsi ["tuple"] (dVar 0)))) (dNotT (dTst (dCB pAll (dCons (dComp (iVal (dVar 0)) (kName 2) dYes (dCall sp_is_within (dCons (dVar 2) (dCons (dC (.int 0)) (dCons (dBin pSub (dVar 1) (dC (.int 1))) dNil)))) [2]) dNil))))) (dRet (dC (.bl false))) dNext) (dRet (dCB pAll (dCons (dComp (iZip2 (dVar 0) (dSlice (dVar 0) (oSome (dC (.int 1))) oNone)) (kTup 2 (kCons (kName 2) (kCons (kName 3) kNil))) dYes (dBin pLe (dVar 2) (dVar 3)) [2, 3]) dNil))))
theorem zip1_le {α : Type} {ns : List α} {k : Nat} (h : ns.length ≤ k) : (ns.zip ns.tail).length ≤ k := by
  rw [List.length_zip]; omega
theorem w_is_bag : bodyW ["thing", "many", "one", "other"] t_is_bag sp_is_bag := by
  intro ds S Q E h
  unfold sp_is_bag at h
  split at h
  · rename_i d n
    obtain ⟨k, h⟩ := h
    obtain ⟨t, ht⟩ := k.known
    show t_is_bag _ _ [some d, some (.int n), none, none] S
    unfold t_is_bag
    simp [ht, isi_tup ht]
    cases d with
    | tup l =>
      simp [isTup]
      refine all_comp l id (fun d => isW d 0 (n - 1)) k.1 (fun i S' _ _ => by simp [srcSeq]) (fun x S' hx le R hR => ?_) (fun S' le => ?_)
      · simp [wipeD]
        exact ⟨((okdL_iff.mp k.2 x hx).mono le).known, hR _ SLe.rfl⟩
      · simp only [isB_bl, all_isW]
        rw [asBag_tup] at h
        cases e : D.ints l with
        | none =>
          rw [e] at h
          simp
          exact ⟨S, le, h⟩
        | some ns =>
          rw [e] at h
          simp only
          have el := ints_eq e
          have hz := k.1
          subst el
          have h : Q (.bl (bagB ns n)) S := by
            cases c : bagB ns n <;> simpa [c] using h
          by_cases b : ns.all (inR n) = true
          · rw [if_pos b]
            simp [pSlice, cut_from]
            refine all_comp (ns.zip ns.tail) (fun q => .tup [.int q.1, .int q.2]) (fun q => decide (q.1 ≤ q.2)) (zip1_le (by simpa using hz)) (fun i S' _ _ => by rw [← zip_ints, List.map_tail]) (fun x S' hx le R hR => ?_) (fun S' le' => ?_)
            · simp [wipeD]
              simpa using hR _ SLe.rfl
            · refine ⟨S, le.trans le', ?_⟩
              unfold bagB at h
              rw [b, Bool.true_and] at h
              exact h
          · rw [if_neg b]
            unfold bagB at h
            rw [Bool.eq_false_iff.mpr b, Bool.false_and] at h
            exact ⟨S, le, h⟩
    | _ => simp [isTup, asBag, deB] at h ⊢; exact wk.of h
  · exact h.elim

theorem okd_eB {S : SH} {b : List Int} (h : b.length ≤ sizeLine) : okd S (eB b) := ⟨by rw [List.length_map]; exact h, okd_ints⟩
theorem okd_eH {S : SH} {h : List (List Int)} (l : h.length ≤ sizeLine) (lb : ∀ b ∈ h, b.length ≤ sizeLine) : okd S (eH h) := ⟨by rw [List.length_map]; exact l, okdL_iff.mpr fun d hd => by
  obtain ⟨b, hb, rfl⟩ := List.mem_map.mp hd
  exact okd_eB (lb b hb)⟩
theorem deB_some {d : D} {b : List Int} (h : deB d = some b) : d = eB b := by
  cases d <;> try cases h
  rename_i l
  exact congrArg D.tup (ints_eq h)
theorem deHs_some : ∀ {l : List D} {h : List (List Int)}, deHs l = some h → l = h.map eB
  | [], _, e => by cases e; rfl
  | d :: l, h, e => by
    unfold deHs at e
    split at e
    · rename_i b h' e1 e2
      cases e
      rw [List.map_cons, deB_some e1, deHs_some e2]
    · cases e
theorem deH_some {d : D} {h : List (List Int)} (e : deH d = some h) : d = eH h := by
  cases d <;> try cases e
  rename_i l
  exact congrArg D.tup (deHs_some e)
theorem asHall_some {d : D} {h : List (List Int)} (e : asHall d = some h) : d = eH h ∧ hallB h = true := by
  unfold asHall at e
  split at e
  · rename_i h' e1
    split at e
    · rename_i c
      cases e
      exact ⟨deH_some e1, c⟩
    · cases e
  · cases e
theorem asHall_eH {h : List (List Int)} (e : hallB h = true) : asHall (eH h) = some h := by unfold asHall; rw [deH_eH]; simp [e]
theorem asBag_some {d : D} {n : Int} {b : List Int} (e : asBag d n = some b) : d = eB b ∧ bagB b n = true := by
  unfold asBag at e
  split at e
  · rename_i h' e1
    split at e
    · rename_i c
      cases e
      exact ⟨deB_some e1, c⟩
    · cases e
  · cases e
def asRis (d : D) (n : Int) : Option (List Int) := match deB d with | some b => if risB b n then some b else none | none => none
theorem asRis_some {d : D} {n : Int} {b : List Int} (e : asRis d n = some b) : d = eB b ∧ risB b n = true := by
  unfold asRis at e
  split at e
  · rename_i h' e1
    split at e
    · rename_i c
      cases e
      exact ⟨deB_some e1, c⟩
    · cases e
  · cases e
theorem asRis_eB {b : List Int} {n : Int} (e : risB b n = true) : asRis (eB b) n = some b := by unfold asRis; rw [deB_eB]; simp [e]
def sp_is_rising : DSp := fun ds S Q _ => match ds with | [d, .int n] => okd S d ∧ Q (.bl (asRis d n).isSome) S | _ => False
@[simp] theorem sp_is_rising_eq {d n S Q E} : sp_is_rising [d, .int n] S Q E = (okd S d ∧ Q (.bl (asRis d n).isSome) S) := rfl
def t_is_rising : DS := (dRet (dAnd (dCall sp_is_bag (dCons (dVar 0) (dCons (dVar 1) dNil))) (dCB pAll (dCons (dComp (iZip2 (dVar 0) (dSlice (dVar 0) (oSome (dC (.int 1))) oNone)) (kTup 2 (kCons (kName 2) (kCons (kName 3) kNil))) dYes (dBin pLt (dVar 2) (dVar 3)) [2, 3]) dNil))))
theorem w_is_rising : bodyW ["thing", "many", "one", "other"] t_is_rising sp_is_rising := by
  intro ds S Q E h
  unfold sp_is_rising at h
  split at h
  · rename_i d n
    obtain ⟨k, h⟩ := h
    show t_is_rising _ _ [some d, some (.int n), none, none] S
    simp [t_is_rising, k]
    cases e : asBag d n with
    | none =>
      simp
      refine wk.of ?_
      have : asRis d n = none := by
        unfold asRis
        unfold asBag at e
        cases z : deB d with
        | none => rfl
        | some b =>
          rw [z] at e
          have c : bagB b n = false := by cases c : bagB b n <;> simp [c] at e ⊢
          simp [risB, c]
      rw [this] at h
      exact h
    | some b =>
      obtain ⟨rfl, c⟩ := asBag_some e
      have h : Q (.bl ((b.zip b.tail).all fun q => decide (q.1 < q.2))) S := by
        have : (asRis (eB b) n).isSome = ((b.zip b.tail).all fun q => decide (q.1 < q.2)) := by
          unfold asRis
          rw [deB_eB]
          cases z : ((b.zip b.tail).all fun q => decide (q.1 < q.2)) <;> simp [risB, c, z]
        rw [← this]; exact h
      simp [pSlice, cut_from, eB]
      refine all_comp (b.zip b.tail) (fun q => .tup [.int q.1, .int q.2]) (fun q => decide (q.1 < q.2)) (zip1_le (by simpa [eB] using k.1)) (fun i S' _ _ => by rw [← zip_ints, List.map_tail]) (fun x S' hx le R hR => ?_) (fun S' le' => ?_)
      · simp [wipeD]
        simpa using hR _ SLe.rfl
      · exact ⟨S, le', h⟩
  · exact h.elim
def sp_is_book : DSp := fun ds S Q _ => match ds with | [d, .int n] => okd S d ∧ Q (.bl (isBook d n)) S | _ => False
@[simp] theorem sp_is_book_eq {d n S Q E} : sp_is_book [d, .int n] S Q E = (okd S d ∧ Q (.bl (isBook d n)) S) := rfl
def t_is_book : DS := (dRet (dAnd (dCall sp_is_bag (dCons (dVar 0) (dCons (dVar 1) dNil))) (dBin pLe (dCB pLen (dCons (dVar 0) dNil)) (dC (.int 16)))))
theorem w_is_book : bodyW ["thing", "many"] t_is_book sp_is_book := by
  intro ds S Q E h
  unfold sp_is_book at h
  split at h
  · rename_i d n
    obtain ⟨k, h⟩ := h
    show t_is_book _ _ [some d, some (.int n)] S
    simp [t_is_book, k]
    unfold isBook at h
    unfold asBag
    cases e : deB d with
    | none => rw [e] at h; simpa using wk.of h
    | some b =>
      rw [e] at h
      obtain rfl := deB_some e
      unfold bookB at h
      cases c : bagB b n with
      | false => simp [c] at h ⊢; exact wk.of h
      | true =>
        simp [c, eB] at h ⊢
        refine wk.of ?_
        have : decide ((b.length : Int) ≤ 16) = decide (b.length ≤ 16) := by rw [decide_eq_decide]; omega
        rw [this]
        exact h
  · exact h.elim
def sp_is_hall : DSp := fun ds S Q _ => match ds with | [d] => okd S d ∧ Q (.bl (asHall d).isSome) S | _ => False
@[simp] theorem sp_is_hall_eq {d S Q E} : sp_is_hall [d] S Q E = (okd S d ∧ Q (.bl (asHall d).isSome) S) := rfl
def t_is_hall : DS := (dSeq (dIfS (dOrT (dNotT (dTst (dIsi ["tuple"] (dVar 0)))) (dNotT (dTst (dChain pLe pLe (dC (.int 1)) (dCB pLen (dCons (dVar 0) dNil)) (dC (.int 12)))))) (dRet (dC (.bl false))) dNext) (dRet (dCB pAll (dCons (dComp (iVal (dVar 0)) (kName 1) dYes (dCall sp_is_book (dCons (dVar 1) (dCons (dCB pLen (dCons (dVar 0) dNil)) dNil))) [1]) dNil))))
theorem all_book {n : Int} : ∀ {l : List D}, l.all (fun d => isBook d n) = match deHs l with | some h => h.all (bookB n) | none => false
  | [] => rfl
  | d :: l => by
    rw [List.all_cons, all_book (l := l)]
    rw [show deHs (d :: l) = (match deB d, deHs l with | some b, some h => some (b :: h) | _, _ => none) from rfl]
    unfold isBook
    cases deB d with
    | none => cases deHs l <;> rfl
    | some b => cases deHs l <;> simp
theorem deHs_len : ∀ {l : List D} {h : List (List Int)}, deHs l = some h → l.length = h.length := fun e => by rw [deHs_some e, List.length_map]
theorem w_is_hall : bodyW ["thing", "one"] t_is_hall sp_is_hall := by
  intro ds S Q E h
  unfold sp_is_hall at h
  split at h
  · rename_i d
    obtain ⟨k, h⟩ := h
    obtain ⟨t, ht⟩ := k.known
    show t_is_hall _ _ [some d, none] S
    simp [t_is_hall, ht, isi_tup ht]
    cases d with
    | tup l =>
      simp [isTup]
      have hh : (asHall (.tup l)).isSome = (decide (1 ≤ l.length) && decide (l.length ≤ 12) && l.all fun d => isBook d l.length) := by
        rw [all_book]
        rw [show asHall (.tup l) = (match deHs l with | some h => if hallB h then some h else none | none => none) from rfl]
        cases e : deHs l with
        | none => simp
        | some h' =>
          rw [deHs_len e]
          simp only
          cases c : hallB h' <;> (unfold hallB at c; rw [c]; rfl)
      rw [hh] at h
      have d1 : decide (1 ≤ (l.length : Int)) = decide (1 ≤ l.length) := by rw [decide_eq_decide]; omega
      have d2 : decide ((l.length : Int) ≤ 12) = decide (l.length ≤ 12) := by rw [decide_eq_decide]; omega
      by_cases c1 : 1 ≤ l.length
      · have c1' : 1 ≤ (l.length : Int) := by omega
        by_cases c2 : l.length ≤ 12
        · have c2' : (l.length : Int) ≤ 12 := by omega
          simp [c1, c2, c1', c2'] at h ⊢
          refine all_comp l id (fun d => isBook d l.length) k.1 (fun i S' _ _ => by simp [srcSeq]) (fun x S' hx le R hR => ?_) (fun S' le => ⟨S, le, ?_⟩)
          · simp [wipeD]
            exact ⟨(okdL_iff.mp k.2 x hx).mono le, hR _ SLe.rfl⟩
          · exact h
        · have c2' : ¬ (l.length : Int) ≤ 12 := by omega
          simp [c1, c2, c1', c2'] at h ⊢
          exact wk.of h
      · have c1' : ¬ 1 ≤ (l.length : Int) := by omega
        simp [c1, c1'] at h ⊢
        exact wk.of h
    | _ => simp [isTup, asHall, deH] at h ⊢; exact wk.of h
  · exact h.elim
/-- a hall and some of its persons, or the right fault -/
def chk (C : Str → Addr) (hd pd : D) (S : SH) (E : XKD) (k : List (List Int) → List Int → Prop) : Prop := match asHall hd with
  | none => E (.ref (C "BadHall")) [] S
  | some h => match asRis pd h.length with
    | none => E (.ref (C "BadPlayers")) [] S
    | some ps => k h ps
def sp_check_hall (C : Str → Addr) : DSp := fun ds S Q E => match ds with | [d] => okd S d ∧ (match asHall d with | none => E (.ref (C "BadHall")) [] S | some _ => Q .non S) | _ => False
@[simp] theorem sp_check_hall_eq {C d S Q E} : sp_check_hall C [d] S Q E = (okd S d ∧ (match asHall d with | none => E (.ref (C "BadHall")) [] S | some _ => Q .non S)) := rfl
def t_check_hall (C : Str → Addr) : DS := (dIfS (dNotT (dTst (dCall sp_is_hall (dCons (dVar 0) dNil)))) (dRaise0 (C "BadHall")) dNext)
theorem w_check_hall (C : Str → Addr) : bodyW ["hall"] (t_check_hall C) (sp_check_hall C) := by
  intro ds S Q E h
  unfold sp_check_hall at h
  split at h
  · rename_i d
    obtain ⟨k, h⟩ := h
    show t_check_hall C _ _ [some d] S
    simp [t_check_hall, k]
    cases e : asHall d <;> (rw [e] at h; simpa using wk.of h)
  · exact h.elim
def sp_check_players (C : Str → Addr) : DSp := fun ds S Q E => match ds with | [d, p] => okd S d ∧ okd S p ∧ chk C d p S E fun _ _ => Q .non S | _ => False
@[simp] theorem sp_check_players_eq {C d p S Q E} : sp_check_players C [d, p] S Q E = (okd S d ∧ okd S p ∧ chk C d p S E fun _ _ => Q .non S) := rfl
def t_check_players (C : Str → Addr) : DS := (dSeq (dExpr (dCall (sp_check_hall C) (dCons (dVar 0) dNil))) (dIfS (dNotT (dTst (dCall sp_is_rising (dCons (dVar 1) (dCons (dCB pLen (dCons (dVar 0) dNil)) dNil))))) (dRaise0 (C "BadPlayers")) dNext))
theorem w_check_players (C : Str → Addr) : bodyW ["hall", "players"] (t_check_players C) (sp_check_players C) := by
  intro ds S Q E h
  unfold sp_check_players at h
  split at h
  · rename_i d p
    obtain ⟨k, kp, h⟩ := h
    show t_check_players C _ _ [some d, some p] S
    simp [t_check_players, k]
    unfold chk at h
    cases e : asHall d with
    | none => rw [e] at h; simpa using wk.of h
    | some hh =>
      rw [e] at h
      obtain ⟨rfl, c⟩ := asHall_some e
      simp [eH, kp]
      cases e2 : asRis p hh.length <;> (simp [e2] at h ⊢; exact wk.of h)
  · exact h.elim
def sp_is_person : DSp := fun ds S Q _ => match ds with | [d, x] => known S x ∧ (∃ h, deH d = some h ∧ Q (.bl (isW x 0 (h.length - 1))) S) | _ => False
@[simp] theorem sp_is_person_eq {h x S Q E} : sp_is_person [eH h, x] S Q E = (known S x ∧ Q (.bl (isW x 0 (h.length - 1))) S) := by simp [sp_is_person]
def t_is_person : DS := (dRet (dCall sp_is_within (dCons (dVar 1) (dCons (dC (.int 0)) (dCons (dBin pSub (dCB pLen (dCons (dVar 0) dNil)) (dC (.int 1))) dNil)))))
theorem w_is_person : bodyW ["hall", "thing"] t_is_person sp_is_person := by
  intro ds S Q E h
  unfold sp_is_person at h
  split at h
  · rename_i d x
    obtain ⟨k, hh, e, h⟩ := h
    obtain rfl := deH_some e
    show t_is_person _ _ [some (eH hh), some x] S
    simp [t_is_person, eH, k]
    exact wk.of h
  · exact h.elim
end DL

set_option Elab.async false
set_option linter.all false
set_option maxRecDepth 100000
set_option maxHeartbeats 4000000
namespace DL
open PySem PySem.Spec PyProof.Rows L2

/-! ### turns -/
def getB (h : List (List Int)) (u : Int) : List Int := (h[u.toNat]?).getD []
theorem inR_iff {n x : Int} : inR n x = true ↔ 0 ≤ x ∧ x < n := by unfold inR; simp
theorem pIx_hall {h : List (List Int)} {u : Int} {S : SH} (hu : inR h.length u = true) : pIxA (eH h) (.int u) S = .val (eB (getB h u)) := by
  obtain ⟨h0, h1⟩ := inR_iff.mp hu
  refine pIxA_of (l := h.map eB) rfl h0 ?_
  have lt : u.toNat < h.length := by omega
  unfold getB
  rw [List.getElem?_map, List.getElem?_eq_getElem lt]; rfl
theorem pIn_eB {b : List Int} {k : Int} {S : SH} {neg : Bool} : pIn neg (.int k) (eB b) S = .val (.bl (if neg then !decide (k ∈ b) else decide (k ∈ b))) := pIn_ints rfl
def goes3 (h : List (List Int)) (ps : List Int) (u v g : Int) : Bool := decide (u ≠ v) && decide (u ∈ ps) && decide (v ∈ ps) && decide (v ∈ getB h u) && decide (g ∈ getB h v)
def goesB (h : List (List Int)) (ps : List Int) (d : D) : Bool := match d with
  | .tup [.int u, .int v, .int g] => inR h.length u && inR h.length v && inR h.length g && goes3 h ps u v g
  | _ => false
def sp_goes : DSp := fun ds S Q _ => match ds with | [hd, pd, d] => okd S d ∧ (∃ h ps, deH hd = some h ∧ deB pd = some ps ∧ Q (.bl (goesB h ps d)) S) | _ => False
@[simp] theorem sp_goes_eq {h ps d S Q E} : sp_goes [eH h, eB ps, d] S Q E = (okd S d ∧ Q (.bl (goesB h ps d)) S) := by simp [sp_goes]
def t_goes : DS := (dSeq (dIfS (dOrT (dNotT (dTst (dCall sp_is_row_of (dCons (dVar 2) (dCons (dC (.int 3)) dNil))))) (dNotT (dTst (dCB pAll (dCons (dComp (iVal (dVar 2)) (kName 3) dYes (dCall sp_is_person (dCons (dVar 0) (dCons (dVar 3) dNil))) [3]) dNil))))) (dRet (dC (.bl false))) dNext) (dSeq (dAsg (dVar 2) (kTup 3 (kCons (kName 4) (kCons (kName 5) (kCons (kName 6) kNil))))) (dRet (dAnd (dBin (pEq true) (dVar 4) (dVar 5)) (dAnd (dBin (pIn false) (dVar 4) (dVar 1)) (dAnd (dBin (pIn false) (dVar 5) (dVar 1)) (dAnd (dBin (pIn false) (dVar 5) (dBin pIxA (dVar 0) (dVar 4))) (dBin (pIn false) (dVar 6) (dBin pIxA (dVar 0) (dVar 5))))))))))
theorem ints3 {l : List D} (h : l.length = 3) (hi : l.all isInt = true) : ∃ u v g : Int, l = [.int u, .int v, .int g] := by
  match l, h with
  | [a, b, c], _ =>
    simp at hi
    obtain ⟨h1, h2, h3⟩ := hi
    cases a <;> cases h1
    cases b <;> cases h2
    cases c <;> cases h3
    exact ⟨_, _, _, rfl⟩
theorem goes_row {h : List (List Int)} {ps : List Int} {d : D} (e : isRow d 3 = false) : goesB h ps d = false := by
  unfold goesB
  split
  · cases e
  · rfl
theorem w_goes : bodyW ["hall", "players", "thing", "one", "u", "v", "g"] t_goes sp_goes := by
  intro ds S Q E h
  unfold sp_goes at h
  split at h
  · rename_i hd pd d
    obtain ⟨k, hh, ps, e1, e2, h⟩ := h
    obtain rfl := deH_some e1
    obtain rfl := deB_some e2
    show t_goes _ _ [some (eH hh), some (eB ps), some d, none, none, none, none] S
    simp [t_goes, k]
    cases e : isRow d 3 with
    | false =>
      rw [goes_row e] at h
      simpa using wk.of h
    | true =>
      simp
      cases d <;> try cases e
      rename_i l
      unfold isRow at e
      simp at e
      obtain ⟨u, v, g, rfl⟩ := ints3 (by omega) (List.all_eq_true.mpr e.2)
      simp
      refine all_comp [u, v, g] D.int (fun x => inR hh.length x) (len_small (by simp)) (fun i S' _ _ => by simp [srcSeq]) (fun x S' hx le R hR => ?_) (fun S' le => ?_)
      · simp [wipeD]
        refine ⟨⟨_, rfl⟩, ?_⟩
        rw [isW_inR]
        exact hR _ SLe.rfl
      · by_cases c : inR hh.length u = true ∧ inR hh.length v = true ∧ inR hh.length g = true
        · obtain ⟨c1, c2, c3⟩ := c
          simp only [goesB, c1, c2, c3, goes3, Bool.and_true, Bool.true_and] at h
          simp only [isB_bl, List.all_cons, c1, c2, c3, List.all_nil, Bool.and_true, if_true, Bool.not_true, Bool.false_eq_true, if_false]
          simp [pIn_eB, pIx_hall, c1, c2]
          by_cases a1 : u = v
          · simp [a1] at h ⊢
            exact ⟨S, le, h⟩
          by_cases a2 : u ∈ ps
          · by_cases a3 : v ∈ ps
            · by_cases a4 : v ∈ getB hh u
              · simp [a1, a2, a3, a4] at h ⊢
                exact ⟨S, le, h⟩
              · simp [a1, a2, a3, a4] at h ⊢
                exact ⟨S, le, h⟩
            · simp [a1, a2, a3] at h ⊢
              exact ⟨S, le, h⟩
          · simp [a1, a2] at h ⊢
            exact ⟨S, le, h⟩
        · have z : (inR hh.length u && inR hh.length v && inR hh.length g) = false := by
            rw [← Bool.not_eq_true, Bool.and_eq_true, Bool.and_eq_true]
            exact fun q => c ⟨q.1.1, q.1.2, q.2⟩
          have z' : ([u, v, g].all fun x => inR hh.length x) = false := by
            rw [← z]; simp [Bool.and_assoc]
          rw [isB_bl, z']
          unfold goesB at h
          simp only [z, Bool.false_and] at h
          simpa using ⟨S, le, h⟩
  · exact h.elim
end DL

set_option Elab.async false
set_option linter.all false
set_option maxRecDepth 100000
set_option maxHeartbeats 4000000
namespace DL
open PySem PySem.Spec PyProof.Rows L2

/-- ms taken out of ns, each once -/
def dif (ns ms : List Int) : List Int := ms.foldl List.erase ns
@[simp] theorem dif_nil {ns : List Int} : dif ns [] = ns := rfl
def sp_less : DSp := fun ds S Q _ => match ds with | [x, y] => (∃ ns ms : List Int, itemsOf x S = some (ns.map D.int) ∧ itemsOf y S = some (ms.map D.int) ∧ ∀ p, S p = none → Q (.ref p) (sup S p (.lst ((dif ns ms).map D.int)))) | _ => False
def t_less : DS := (dSeq (dAsg (dCB pList (dCons (dVar 0) dNil)) (kName 2)) (dSeq (dFor (iVal (dVar 1)) (kName 3) (dIfS (dTst (dBin (pIn false) (dVar 3) (dVar 2))) (dExpr (dMeth "list" pRemove (dVar 2) (dCons (dVar 3) dNil))) dNext)) (dRet (dVar 2))))
theorem pList_items {x : D} {S : SH} {l : List D} (h : itemsOf x S = some l) : pList [x] S = .new (.lst l) := by simp only [pList, h]
theorem items_inv {a : Addr} {S : SH} {l : List D} (h : itemsOf (.ref a) S = some l) : S a = some (.lst l) := by
  have h' : (match S a with | some (.lst l) => some l | _ => none) = some l := h
  split at h'
  · rename_i e; cases h'; exact e
  · cases h'
theorem items_mono {x : D} {S S' : SH} {l : List D} (m : SLe S S') (h : itemsOf x S = some l) : itemsOf x S' = some l := by
  cases x <;> try exact h
  rename_i a
  exact items_ref (m _ _ (items_inv h))
theorem src_items {x : D} {S : SH} {l : List D} (h : itemsOf x S = some l) : ∃ src, (∀ S', SLe S S' → srcOf x S' = some src) ∧ ∀ i S', SLe S S' → src i S' = some l[i]? := by
  cases x <;> try (cases h; done)
  · cases h; exact ⟨_, fun _ _ => rfl, fun i S' _ => rfl⟩
  · rename_i a
    have e := items_inv h
    exact ⟨_, fun S' m => srcOf_ref (m _ _ e), fun i S' m => by simp only [srcLst, m _ _ e]⟩
  · cases h; exact ⟨_, fun _ _ => rfl, fun i S' _ => rfl⟩
theorem diff_snoc (ns ms : List Int) (m : Int) : dif ns (ms ++ [m]) = (dif ns ms).erase m := by
  unfold dif
  rw [List.foldl_append]; rfl
theorem w_less : bodyW ["bag", "some", "left", "one"] t_less sp_less := by
  intro ds S Q E h
  unfold sp_less at h
  split at h
  · rename_i x y
    obtain ⟨ns, ms, hx, hy, h⟩ := h
    show t_less _ _ [some x, some y, none, none] S
    simp [t_less, pList_items hx]
    intro p hp
    obtain ⟨src, e1, e2⟩ := src_items hy
    simp only [e1 _ (SLe.new hp)]
    refine for_inv (ms.map D.int) (fun i τ S' => ∃ v, τ = [some x, some y, some (.ref p), v] ∧ S' = sup S p (.lst ((dif ns (ms.take i)).map D.int))) ⟨none, rfl, by simp⟩ ?_ ?_ ?_
    · rintro i τ _ hi ⟨v, rfl, rfl⟩
      exact e2 i _ (SLe.new hp)
    · rintro i d τ _ hd ⟨v, rfl, rfl⟩ P hP
      rw [List.getElem?_map] at hd
      cases q : ms[i]? with
      | none => rw [q] at hd; cases hd
      | some m =>
        rw [q] at hd
        cases hd
        have tk : ms.take (i + 1) = ms.take i ++ [m] := by rw [List.take_add_one, q]; rfl
        simp [pIn_ints (items_ref (sup_same))]
        split
        · rename_i c
          simp [tyIs_ref sup_same, pRemove_of sup_same c, sup_sup]
          refine wk.of (hP _ _ ⟨_, rfl, ?_⟩)
          rw [tk, diff_snoc]
        · rename_i c
          refine wk.of (hP _ _ ⟨_, rfl, ?_⟩)
          rw [tk, diff_snoc, List.erase_of_not_mem c]
    · rintro τ _ ⟨v, rfl, rfl⟩
      simp
      refine wk.of ?_
      exact h p hp
  · exact h.elim
/-! ### a bag with one card out, another in -/
def xch (b : List Int) (out gain : Int) : List Int := sortI (b.erase out ++ [gain])
def sp_exchanged : DSp := fun ds S Q _ => match ds with | [bd, .int o, .int g] => (∃ b, deB bd = some b ∧ b.length < 1000 ∧ Q (eB (xch b o g)) S) | _ => False
@[simp] theorem sp_exchanged_eq {b o g S Q E} : sp_exchanged [eB b, .int o, .int g] S Q E = (b.length < 1000 ∧ Q (eB (xch b o g)) S) := by simp [sp_exchanged]
def t_exchanged : DS := (dRet (dCB pTuple (dCons (dCB pSorted (dCons (dBin pAdd (dCall sp_less (dCons (dVar 0) (dCons (dLst (dCons (dVar 1) dNil)) dNil))) (dLst (dCons (dVar 2) dNil))) dNil)) dNil)))
theorem w_exchanged : bodyW ["cards", "out", "gain"] t_exchanged sp_exchanged := by
  intro ds S Q E h
  unfold sp_exchanged at h
  split at h
  · rename_i bd o g
    obtain ⟨b, e, lb, h⟩ := h
    obtain rfl := deB_some e
    show t_exchanged _ _ [some (eB b), some (.int o), some (.int g)] S
    simp [t_exchanged]
    refine ⟨by decide, fun q hq => ⟨b, [o], rfl, items_ref sup_same, fun p hp => ⟨by decide, fun r hr => ?_⟩⟩⟩
    have l1 : (dif b [o]).length ≤ b.length := by
      exact List.length_erase_le
    rw [pAdd_lst (sup_old sup_same hr) sup_same (by
      have : (dif b [o]).length + 1 ≤ sizeLine := Nat.le_trans (by omega) (show 1001 ≤ sizeLine by decide)
      simpa using this)]
    simp
    intro t ht
    rw [pSorted_ref (ns := dif b [o] ++ [g]) (by simp)]
    simp
    intro u hu
    rw [pTuple_ref sup_same]
    simp
    refine ⟨S, (SLe.new hq).trans ((SLe.new hp).trans ((SLe.new hr).trans ((SLe.new ht).trans (SLe.new hu)))), ?_⟩
    have : dif b [o] = b.erase o := rfl
    rw [this]
    exact h
  · exact h.elim
end DL

set_option Elab.async false
set_option linter.all false
set_option maxRecDepth 100000
set_option maxHeartbeats 4000000
namespace DL
open PySem PySem.Spec PyProof.Rows L2

/-! ### behind a turn -/
def bhd (h : List (List Int)) (u v g : Int) : List (List Int) := (h.set u.toNat (xch (getB h u) v g)).set v.toNat (xch (getB h v) g u)
def eT (q : Int × Int × Int) : D := .tup [.int q.1, .int q.2.1, .int q.2.2]
def sp_behind : DSp := fun ds S Q _ => match ds with
  | [hd, .tup [.int u, .int v, .int g]] => (∃ h, deH hd = some h ∧ h.length < 1000 ∧ (∀ b ∈ h, b.length < 1000) ∧ inR h.length u = true ∧ inR h.length v = true ∧ Q (eH (bhd h u v g)) S)
  | _ => False
theorem sp_behind_i {h : List (List Int)} {u v g : Int} {S : SH} {Q : QE} {E : XKD} (l : h.length < 1000) (lb : ∀ b ∈ h, b.length < 1000) (hu : inR h.length u = true) (hv : inR h.length v = true) (q : Q (eH (bhd h u v g)) S) : sp_behind [eH h, eT (u, v, g)] S Q E :=
  ⟨h, deH_eH, l, lb, hu, hv, q⟩
theorem getB_mem {h : List (List Int)} {u : Int} (hu : inR h.length u = true) : getB h u ∈ h := by
  obtain ⟨h0, h1⟩ := inR_iff.mp hu
  have lt : u.toNat < h.length := by omega
  unfold getB
  rw [List.getElem?_eq_getElem lt]
  exact List.getElem_mem lt
def t_behind : DS := (dSeq (dAsg (dVar 1) (kTup 3 (kCons (kName 2) (kCons (kName 3) (kCons (kName 4) kNil))))) (dSeq (dAsg (dCB pList (dCons (dVar 0) dNil)) (kName 5)) (dSeq (dAsg (dCall sp_exchanged (dCons (dBin pIxA (dVar 0) (dVar 2)) (dCons (dVar 3) (dCons (dVar 4) dNil)))) (kSub pSetIx (dVar 5) (dVar 2))) (dSeq (dAsg (dCall sp_exchanged (dCons (dBin pIxA (dVar 0) (dVar 3)) (dCons (dVar 4) (dCons (dVar 2) dNil)))) (kSub pSetIx (dVar 5) (dVar 3))) (dRet (dCB pTuple (dCons (dVar 5) dNil)))))))
theorem w_behind : bodyW ["hall", "turn", "u", "v", "g", "found"] t_behind sp_behind := by
  intro ds S Q E h
  unfold sp_behind at h
  split at h
  · rename_i hd u v g
    obtain ⟨hh, e, l, lb, hu, hv, h⟩ := h
    obtain rfl := deH_some e
    show t_behind _ _ [some (eH hh), some (eT (u, v, g)), none, none, none, none] S
    obtain ⟨u0, u1⟩ := inR_iff.mp hu
    obtain ⟨v0, v1⟩ := inR_iff.mp hv
    have lu := lb _ (getB_mem hu)
    have lv := lb _ (getB_mem hv)
    simp [t_behind, eT, pIx_hall, hu, hv, lu, lv]
    rw [show pList [eH hh] S = .new (.lst (hh.map eB)) from rfl]
    simp
    intro p hp
    rw [pSetIx_of sup_same u0 (by rw [List.length_map]; exact u1)]
    simp [sup_sup, pIx_hall, hv, lv]
    rw [pSetIx_of sup_same v0 (by rw [List.length_set, List.length_map]; exact v1)]
    simp [sup_sup]
    rw [pTuple_ref sup_same]
    simp
    refine ⟨S, SLe.new hp, ?_⟩
    have : eH (bhd hh u v g) = .tup (((hh.map eB).set u.toNat (eB (xch (getB hh u) v g))).set v.toNat (eB (xch (getB hh v) g u))) := by
      unfold eH bhd
      rw [List.map_set, List.map_set]
    rw [← this]
    exact h
  · exact h.elim
/-! ### is_turn, turned -/
def sp_is_turn (C : Str → Addr) : DSp := fun ds S Q E => match ds with
  | [hd, pd, d] => okd S hd ∧ okd S pd ∧ okd S d ∧ chk C hd pd S E fun h ps => Q (.bl (goesB h ps d)) S
  | _ => False
@[simp] theorem sp_is_turn_eq {C hd pd d S Q E} : sp_is_turn C [hd, pd, d] S Q E = (okd S hd ∧ okd S pd ∧ okd S d ∧ chk C hd pd S E fun h ps => Q (.bl (goesB h ps d)) S) := rfl
def t_is_turn (C : Str → Addr) : DS := (dSeq (dExpr (dCall (sp_check_players C) (dCons (dVar 0) (dCons (dVar 1) dNil)))) (dRet (dCall sp_goes (dCons (dVar 0) (dCons (dVar 1) (dCons (dVar 2) dNil))))))
/-- the cases of chk -/
theorem chk_cases {C : Str → Addr} {hd pd : D} {S : SH} {E : XKD} {k : List (List Int) → List Int → Prop} (h : chk C hd pd S E k) :
    (asHall hd = none ∧ E (.ref (C "BadHall")) [] S) ∨ (∃ hh, hd = eH hh ∧ hallB hh = true ∧ ((asRis pd hh.length = none ∧ E (.ref (C "BadPlayers")) [] S) ∨ ∃ ps, pd = eB ps ∧ risB ps hh.length = true ∧ k hh ps)) := by
  unfold chk at h
  cases e : asHall hd with
  | none => rw [e] at h; exact .inl ⟨rfl, h⟩
  | some hh =>
    rw [e] at h
    obtain ⟨rfl, c⟩ := asHall_some e
    refine .inr ⟨hh, rfl, c, ?_⟩
    cases e2 : asRis pd hh.length with
    | none => simp only [e2] at h; exact .inl ⟨rfl, h⟩
    | some ps =>
      simp only [e2] at h
      obtain ⟨rfl, c2⟩ := asRis_some e2
      exact .inr ⟨ps, rfl, c2, h⟩
theorem chk_hall {C : Str → Addr} {hd pd : D} {S : SH} {E : XKD} {k : List (List Int) → List Int → Prop} (e : asHall hd = none) : chk C hd pd S E k = E (.ref (C "BadHall")) [] S := by
  unfold chk; rw [e]
theorem chk_pls {C : Str → Addr} {hh : List (List Int)} {pd : D} {S : SH} {E : XKD} {k : List (List Int) → List Int → Prop} (c : hallB hh = true) (e : asRis pd hh.length = none) : chk C (eH hh) pd S E k = E (.ref (C "BadPlayers")) [] S := by
  unfold chk; rw [asHall_eH c]; simp only [e]
theorem chk_ok {C : Str → Addr} {hh : List (List Int)} {ps : List Int} {S : SH} {E : XKD} {k : List (List Int) → List Int → Prop} (c : hallB hh = true) (e : risB ps hh.length = true) : chk C (eH hh) (eB ps) S E k = k hh ps := by
  unfold chk; rw [asHall_eH c]; simp only [asRis_eB e]
theorem w_is_turn (C : Str → Addr) : bodyW ["hall", "players", "thing"] (t_is_turn C) (sp_is_turn C) := by
  intro ds S Q E h
  unfold sp_is_turn at h
  split at h
  · rename_i hd pd d
    obtain ⟨k1, k2, k3, h⟩ := h
    show t_is_turn C _ _ [some hd, some pd, some d] S
    simp [t_is_turn, k1, k2]
    rcases chk_cases h with ⟨e, h⟩ | ⟨hh, rfl, c, ⟨e, h⟩ | ⟨ps, rfl, c2, h⟩⟩
    · rw [chk_hall e]; exact wk.of h
    · rw [chk_pls c e]; exact wk.of h
    · rw [chk_ok c c2]
      simp [k3]
      exact wk.of h
  · exact h.elim
theorem bag_small {b : List Int} {n : Nat} (h : bookB n b = true) : b.length ≤ 16 := by
  unfold bookB at h
  simp at h
  exact h.2
theorem hall_small {h : List (List Int)} (c : hallB h = true) : 1 ≤ h.length ∧ h.length ≤ 12 ∧ ∀ b ∈ h, bookB h.length b = true := by
  unfold hallB at c
  simp at c
  exact ⟨c.1.1, c.1.2, c.2⟩
def sp_turned (C : Str → Addr) : DSp := fun ds S Q E => match ds with
  | [hd, pd, d] => okd S hd ∧ okd S pd ∧ okd S d ∧ chk C hd pd S E fun h ps => if goesB h ps d = true then (∃ u v g, d = eT (u, v, g) ∧ Q (eH (bhd h u v g)) S) else E (.ref (C "BadTurn")) [] S
  | _ => False
@[simp] theorem sp_turned_eq {C hd pd d S Q E} : sp_turned C [hd, pd, d] S Q E = (okd S hd ∧ okd S pd ∧ okd S d ∧ chk C hd pd S E fun h ps => if goesB h ps d = true then (∃ u v g, d = eT (u, v, g) ∧ Q (eH (bhd h u v g)) S) else E (.ref (C "BadTurn")) [] S) := rfl
def t_turned (C : Str → Addr) : DS := (dSeq (dExpr (dCall (sp_check_players C) (dCons (dVar 0) (dCons (dVar 1) dNil)))) (dSeq (dIfS (dNotT (dTst (dCall sp_goes (dCons (dVar 0) (dCons (dVar 1) (dCons (dVar 2) dNil)))))) (dRaise0 (C "BadTurn")) dNext) (dRet (dCall sp_behind (dCons (dVar 0) (dCons (dVar 2) dNil))))))
theorem goes_eT {h : List (List Int)} {ps : List Int} {u v g : Int} (e : goesB h ps (eT (u, v, g)) = true) : inR h.length u = true ∧ inR h.length v = true ∧ inR h.length g = true ∧ goes3 h ps u v g = true := by
  have e' : (inR h.length u && inR h.length v && inR h.length g && goes3 h ps u v g) = true := e
  simp at e'
  exact ⟨e'.1.1.1, e'.1.1.2, e'.1.2, e'.2⟩
theorem w_turned (C : Str → Addr) : bodyW ["hall", "players", "turn"] (t_turned C) (sp_turned C) := by
  intro ds S Q E h
  unfold sp_turned at h
  split at h
  · rename_i hd pd d
    obtain ⟨k1, k2, k3, h⟩ := h
    show t_turned C _ _ [some hd, some pd, some d] S
    simp [t_turned, k1, k2]
    rcases chk_cases h with ⟨e, h⟩ | ⟨hh, rfl, c, ⟨e, h⟩ | ⟨ps, rfl, c2, h⟩⟩
    · rw [chk_hall e]; exact wk.of h
    · rw [chk_pls c e]; exact wk.of h
    · rw [chk_ok c c2]
      simp [k3]
      split at h
      · rename_i z
        obtain ⟨u, v, g, rfl, h9⟩ := h
        simp [z]
        obtain ⟨z1, z2, z3, _⟩ := goes_eT z
        obtain ⟨s1, s2, s3⟩ := hall_small c
        exact sp_behind_i (by omega) (fun b hb => by have := bag_small (s3 b hb); omega) z1 z2 (wk.of h9)
      · rename_i z
        simp [z]
        exact wk.of h
  · exact h.elim
/-! ### all turns -/
def goings (h : List (List Int)) (ps : List Int) (u v : Int) : List (Int × Int × Int) := if u ≠ v ∧ v ∈ getB h u then (sortS (getB h v)).map fun g => (u, v, g) else []
def turnsU (h : List (List Int)) (ps : List Int) (u : Int) (vs : List Int) : List (Int × Int × Int) := vs.flatMap fun v => goings h ps u v
def turnsF (h : List (List Int)) (ps : List Int) (us : List Int) : List (Int × Int × Int) := us.flatMap fun u => turnsU h ps u ps

theorem flat_len {α β : Type} {f : α → List β} {c : Nat} : ∀ {l : List α}, (∀ x ∈ l, (f x).length ≤ c) → (l.flatMap f).length ≤ l.length * c
  | [], _ => by simp
  | x :: l, h => by
    rw [List.flatMap_cons, List.length_append, List.length_cons, Nat.add_mul, Nat.one_mul]
    have := h x (List.mem_cons_self ..)
    have := flat_len (l := l) fun y hy => h y (List.mem_cons_of_mem _ hy)
    omega
theorem eraseDups_len (n : Nat) : ∀ {l : List Int}, l.length ≤ n → l.eraseDups.length ≤ l.length := by
  induction n with
  | zero => intro l h; cases l <;> simp at h ⊢
  | succ n ih =>
    intro l h
    cases l with
    | nil => simp
    | cons a l =>
      rw [List.eraseDups_cons, List.length_cons, List.length_cons]
      have : (l.filter fun b => !b == a).length ≤ l.length := List.length_filter_le ..
      have := ih (l := l.filter fun b => !b == a) (by rw [List.length_cons] at h; omega)
      omega
theorem sortS_len {l : List Int} : (sortS l).length ≤ l.length := by
  unfold sortS
  refine Nat.le_trans (eraseDups_len _ (Nat.le_refl _)) ?_
  rw [(sortI_perm l).length_eq]
  exact Nat.le_refl _
/-- the small ones -/
structure Small (h : List (List Int)) (ps : List Int) : Prop where
  sh : h.length < 64
  sb : ∀ b ∈ h, b.length < 64
  sp : ps.length < 64
  sr : ∀ x ∈ ps, inR h.length x = true
theorem goings_len {h : List (List Int)} {ps : List Int} (z : Small h ps) {u v : Int} (hv : v ∈ ps) : (goings h ps u v).length ≤ 64 := by
  unfold goings
  split
  · rw [List.length_map]
    have := z.sb _ (getB_mem (z.sr v hv))
    have := sortS_len (l := getB h v)
    omega
  · simp
theorem turnsU_len {h : List (List Int)} {ps vs : List Int} (z : Small h ps) {u : Int} (hv : ∀ v ∈ vs, v ∈ ps) (l : vs.length ≤ 64) : (turnsU h ps u vs).length ≤ 64 * 64 := by
  refine Nat.le_trans (flat_len (c := 64) fun v h' => goings_len z (hv v h')) ?_
  exact Nat.mul_le_mul_right _ l
theorem turnsF_len {h : List (List Int)} {ps us : List Int} (z : Small h ps) (l : us.length ≤ 64) : (turnsF h ps us).length ≤ 64 * (64 * 64) := by
  refine Nat.le_trans (flat_len (c := 64 * 64) fun u h' => turnsU_len z (fun v hv => hv) (by have := z.sp; omega)) ?_
  exact Nat.mul_le_mul_right _ l
theorem take_snoc {α : Type} {l : List α} {i : Nat} {x : α} (q : l[i]? = some x) : l.take (i + 1) = l.take i ++ [x] := by rw [List.take_add_one, q]; rfl
def sp_all_going : DSp := fun ds S Q _ => match ds with
  | [hd, pd] => (∃ h ps, deH hd = some h ∧ deB pd = some ps ∧ Small h ps ∧ ∀ p, S p = none → Q (.ref p) (sup S p (.lst ((turnsF h ps ps).map eT))))
  | _ => False
@[simp] theorem sp_all_going_eq {h ps S Q E} : sp_all_going [eH h, eB ps] S Q E = (Small h ps ∧ ∀ p, S p = none → Q (.ref p) (sup S p (.lst ((turnsF h ps ps).map eT)))) := by simp [sp_all_going]
def t_all_going : DS := (dSeq (dAsg (dLst dNil) (kName 2)) (dSeq (dFor (iVal (dVar 1)) (kName 3) (dFor (iVal (dVar 1)) (kName 4) (dIfS (dAndT (dTst (dBin (pEq true) (dVar 3) (dVar 4))) (dTst (dBin (pIn false) (dVar 4) (dBin pIxA (dVar 0) (dVar 3))))) (dExpr (dMeth "list" pExtend (dVar 2) (dCons (dComp (iVal (dSortSet (dBin pIxA (dVar 0) (dVar 4)))) (kName 5) dYes (dTup (dCons (dVar 3) (dCons (dVar 4) (dCons (dVar 5) dNil)))) [5]) dNil))) dNext))) (dRet (dVar 2))))
theorem get_map {α β : Type} {l : List α} {f : α → β} {i : Nat} {d : β} (h : (l.map f)[i]? = some d) : ∃ x, l[i]? = some x ∧ d = f x ∧ x ∈ l := by
  rw [List.getElem?_map] at h
  cases q : l[i]? with
  | none => rw [q] at h; cases h
  | some x => rw [q] at h; cases h; exact ⟨x, rfl, rfl, List.mem_of_getElem? q⟩
theorem SLe.putW {S A : SH} {p : Addr} {X W : DO} (h : SLe (DL.sup S p X) A) : SLe (DL.sup S p W) (DL.sup A p W) := by
  rw [← sup_sup (S := S) (o := X)]
  exact SLe.sup h
theorem w_all_going : bodyW ["hall", "players", "found", "u", "v", "g"] t_all_going sp_all_going := by
  intro ds S Q E h
  unfold sp_all_going at h
  split at h
  · rename_i hd pd
    obtain ⟨hh, ps, e1, e2, z, h⟩ := h
    obtain rfl := deH_some e1
    obtain rfl := deB_some e2
    show t_all_going _ _ [some (eH hh), some (eB ps), none, none, none, none] S
    simp [t_all_going]
    intro p hp
    rw [show srcOf (eB ps) (sup S p (.lst [])) = some (srcSeq (ps.map D.int)) from rfl]
    simp only
    refine for_inv (ps.map D.int) (fun i τ S' => (∃ v3 v4 v5, τ = [some (eH hh), some (eB ps), some (.ref p), v3, v4, v5]) ∧ S' = sup S p (.lst ((turnsF hh ps (ps.take i)).map eT))) ⟨⟨_, _, _, rfl⟩, by simp [turnsF]⟩ (fun i τ S' _ _ => rfl) ?_ ?_
    · rintro i d τ _ hd ⟨⟨v3, v4, v5, rfl⟩, rfl⟩ P hP
      obtain ⟨u, hu, rfl, um⟩ := get_map hd
      simp
      rw [show srcOf (eB ps) (sup S p (.lst ((turnsF hh ps (ps.take i)).map eT))) = some (srcSeq (ps.map D.int)) from rfl]
      simp only
      refine for_inv (ps.map D.int) (fun j τ S' => (∃ v4 v5, τ = [some (eH hh), some (eB ps), some (.ref p), some (.int u), v4, v5]) ∧ S' = sup S p (.lst ((turnsF hh ps (ps.take i) ++ turnsU hh ps u (ps.take j)).map eT))) ⟨⟨_, _, rfl⟩, by simp [turnsU]⟩ (fun i τ S' _ _ => rfl) ?_ ?_
      · rintro j d τ _ hd ⟨⟨v4, v5, rfl⟩, rfl⟩ P' hP'
        obtain ⟨v, hv, rfl, vm⟩ := get_map hd
        have ext : turnsU hh ps u (ps.take (j + 1)) = turnsU hh ps u (ps.take j) ++ goings hh ps u v := by
          unfold turnsU
          rw [take_snoc hv, List.flatMap_append]
          simp
        simp [pIx_hall, z.sr u um, z.sr v vm, pIn_eB]
        have no : ¬ (u ≠ v ∧ v ∈ getB hh u) → wk (P' [some (eH hh), some (eB ps), some (.ref p), some (.int u), some (.int v), v5]) (sup S p (.lst ((turnsF hh ps (ps.take i)).map eT ++ (turnsU hh ps u (ps.take j)).map eT))) := fun c => by
          refine wk.of (hP' _ _ ⟨⟨_, _, rfl⟩, ?_⟩)
          rw [ext, show goings hh ps u v = [] from if_neg c, List.append_nil, List.map_append]
        by_cases c1 : u = v
        · simpa [c1] using no (fun c => c.1 c1)
        · simp [c1]
          by_cases c2 : v ∈ getB hh u
          · simp [c2]
            rw [show tyIs "list" (.ref p) (sup S p (.lst ((turnsF hh ps (ps.take i)).map eT ++ (turnsU hh ps u (ps.take j)).map eT))) = true from tyIs_ref sup_same]
            refine ⟨rfl, ?_⟩
            have bl := z.sb _ (getB_mem (z.sr v vm))
            rw [show (eB (getB hh v)) = .tup ((getB hh v).map D.int) from rfl]
            simp only [ints_map]
            refine ⟨bl, fun q hq => ?_⟩
            rw [srcOf_ref sup_same]
            intro r hr
            refine comp_map (sortS (getB hh v)) D.int (fun g => eT (u, v, g)) hr (by have := sortS_len (l := getB hh v); exact len_small (by omega)) (fun k S' _ le => by simp only [srcLst, le _ _ sup_same]) (fun g S' hg le R hR => ?_) ?_
            · simp [wipeD]
              exact ⟨by decide, hR _ SLe.rfl⟩
            · rw [pExtend_of (sup_old (sup_old sup_same hq) hr) sup_same (by
                have a1 := turnsF_len (us := ps.take i) z (by rw [List.length_take]; have := z.sp; omega)
                have a2 := turnsU_len (u := u) (vs := ps.take j) z (fun v hv => List.mem_of_mem_take hv) (by rw [List.length_take]; have := z.sp; omega)
                have a3 := sortS_len (l := getB hh v)
                simp only [List.length_append, List.length_map]
                have a4 : 64 * (64 * 64) + 64 * 64 + 64 ≤ sizeLine := by decide
                omega)]
              simp
              refine ⟨_, ?_, hP' _ _ ⟨⟨_, _, rfl⟩, rfl⟩⟩
              rw [ext, show goings hh ps u v = (sortS (getB hh v)).map (fun g => (u, v, g)) from if_pos ⟨c1, c2⟩]
              simp only [List.map_append, List.map_map, List.append_assoc]
              exact SLe.putW ((SLe.new hq).trans (SLe.new hr))
          · simpa [c2] using no (fun c => c2 c.2)
      · rintro τ _ ⟨⟨v4, v5, rfl⟩, rfl⟩
        refine wk.of (hP _ _ ⟨⟨_, _, _, rfl⟩, ?_⟩)
        have : turnsF hh ps (ps.take (i + 1)) = turnsF hh ps (ps.take i) ++ turnsU hh ps u ps := by
          unfold turnsF
          rw [take_snoc hu, List.flatMap_append]
          simp
        rw [this, List.length_map, List.take_length]
    · rintro τ _ ⟨⟨v3, v4, v5, rfl⟩, rfl⟩
      simp
      exact wk.of (h p hp)
  · exact h.elim

theorem adj_cons {α : Type} {P : α → α → Bool} {x y : α} {l : List α} : ((x :: y :: l).zip (x :: y :: l).tail).all (fun q => P q.1 q.2) = (P x y && ((y :: l).zip (y :: l).tail).all (fun q => P q.1 q.2)) := rfl
theorem ris_bound {n : Int} : ∀ {l : List Int} {x : Int}, ((x :: l).zip (x :: l).tail).all (fun q => decide (q.1 < q.2)) = true → (∀ y ∈ x :: l, y < n) → x + l.length < n
  | [], x, _, h => by have := h x (List.mem_cons_self ..); simp; exact this
  | y :: l, x, a, h => by
    rw [adj_cons (P := fun a b => decide (a < b)), Bool.and_eq_true, decide_eq_true_eq] at a
    have := ris_bound (l := l) (x := y) a.2 fun z hz => h z (List.mem_cons_of_mem _ hz)
    rw [List.length_cons]
    omega
theorem ris_len {n : Nat} {l : List Int} (a : (l.zip l.tail).all (fun q => decide (q.1 < q.2)) = true) (h : ∀ x ∈ l, inR n x = true) : l.length ≤ n := by
  cases l with
  | nil => simp
  | cons x l =>
    have := ris_bound a fun y hy => (inR_iff.mp (h y hy)).2
    have := (inR_iff.mp (h x (List.mem_cons_self ..))).1
    rw [List.length_cons]
    omega
theorem small_of {h : List (List Int)} {ps : List Int} (c : hallB h = true) (e : risB ps h.length = true) : Small h ps := by
  obtain ⟨s1, s2, s3⟩ := hall_small c
  have a : ∀ x ∈ ps, inR h.length x = true := by
    unfold risB bagB at e
    rw [Bool.and_eq_true, Bool.and_eq_true] at e
    exact List.all_eq_true.mp e.1.1
  have r : (ps.zip ps.tail).all (fun q => decide (q.1 < q.2)) = true := by
    unfold risB at e
    rw [Bool.and_eq_true] at e
    exact e.2
  refine ⟨by omega, fun b hb => by have := bag_small (s3 b hb); omega, ?_, a⟩
  have := ris_len r a
  omega
def sp_turns (C : Str → Addr) : DSp := fun ds S Q E => match ds with
  | [hd, pd] => okd S hd ∧ okd S pd ∧ chk C hd pd S E fun h ps => ∀ p, S p = none → Q (.ref p) (sup S p (.lst ((turnsF h ps ps).map eT)))
  | _ => False
@[simp] theorem sp_turns_eq {C hd pd S Q E} : sp_turns C [hd, pd] S Q E = (okd S hd ∧ okd S pd ∧ chk C hd pd S E fun h ps => ∀ p, S p = none → Q (.ref p) (sup S p (.lst ((turnsF h ps ps).map eT)))) := rfl
def t_turns (C : Str → Addr) : DS := (dSeq (dExpr (dCall (sp_check_players C) (dCons (dVar 0) (dCons (dVar 1) dNil)))) (dRet (dCall sp_all_going (dCons (dVar 0) (dCons (dVar 1) dNil)))))
theorem w_turns (C : Str → Addr) : bodyW ["hall", "players"] (t_turns C) (sp_turns C) := by
  intro ds S Q E h
  unfold sp_turns at h
  split at h
  · rename_i hd pd
    obtain ⟨k1, k2, h⟩ := h
    show t_turns C _ _ [some hd, some pd] S
    simp [t_turns, k1, k2]
    rcases chk_cases h with ⟨e, h⟩ | ⟨hh, rfl, c, ⟨e, h⟩ | ⟨ps, rfl, c2, h⟩⟩
    · rw [chk_hall e]; exact wk.of h
    · rw [chk_pls c e]; exact wk.of h
    · rw [chk_ok c c2]
      simp [small_of c c2]
      exact fun p hp => wk.of (h p hp)
  · exact h.elim
end DL

set_option Elab.async false
set_option linter.all false
set_option maxRecDepth 100000
set_option maxHeartbeats 4000000
namespace DL
open PySem PySem.Spec PyProof.Rows L2

/-! ### the law's hand of draws -/
structure Hand (S : SH) (h c : Addr) : Prop where
  ex : ∃ (cells : List Int) (i big mix n : Int), S h = some (.lst [.ref c, .int i, .int big, .int mix, .int n]) ∧ S c = some (.lst (cells.map D.int)) ∧ 0 ≤ i
  ne : c ≠ h
/-- the store's objects stay, but for h -/
def Kp (h : Addr) (S S' : SH) : Prop := ∀ a o, a ≠ h → S a = some o → S' a = some o
theorem Kp.rfl {h : Addr} {S : SH} : Kp h S S := fun _ _ _ e => e
theorem Kp.trans {h : Addr} {S S1 S2 : SH} (k : Kp h S S1) (k' : Kp h S1 S2) : Kp h S S2 := fun a o n e => k' a o n (k a o n e)
theorem Kp.le {h : Addr} {S S' : SH} (m : SLe S S') : Kp h S S' := fun a o _ e => m a o e
theorem Kp.put {h : Addr} {S : SH} {o : DO} : Kp h S (sup S h o) := fun a u n e => by rw [sup_ne n]; exact e
theorem Kp.new {h p : Addr} {S S' : SH} {o : DO} (k : Kp h S S') (hp : S p = none) : Kp h S (sup S' p o) := fun a u n e => by
  rw [sup_ne]
  · exact k a u n e
  · intro z; subst z; rw [hp] at e; cases e
theorem Hand.mono {S S' : SH} {h c : Addr} (H : Hand S h c) (m : SLe S S') : Hand S' h c :=
  let ⟨cells, i, big, mix, n, e1, e2, e3⟩ := H.ex
  ⟨⟨cells, i, big, mix, n, m _ _ e1, m _ _ e2, e3⟩, H.ne⟩
theorem Hand.some_h {S : SH} {h c : Addr} (H : Hand S h c) : ∃ o, S h = some o := let ⟨_, _, _, _, _, e1, _⟩ := H.ex; ⟨_, e1⟩
theorem Hand.some_c {S : SH} {h c : Addr} (H : Hand S h c) : ∃ o, S c = some o := let ⟨_, _, _, _, _, _, e1, _⟩ := H.ex; ⟨_, e1⟩
/-- another object is written -/
theorem Hand.put {S : SH} {h c a : Addr} {o : DO} (H : Hand S h c) (n1 : a ≠ h) (n2 : a ≠ c) : Hand (sup S a o) h c :=
  let ⟨cells, i, big, mix, n, e1, e2, e3⟩ := H.ex
  ⟨⟨cells, i, big, mix, n, by rw [sup_ne (Ne.symm n1)]; exact e1, by rw [sup_ne (Ne.symm n2)]; exact e2, e3⟩, H.ne⟩
theorem Hand.new {S : SH} {h c a : Addr} {o : DO} (H : Hand S h c) (n : S a = none) : Hand (sup S a o) h c := H.mono (SLe.new n)
theorem Hand.ne_new {S : SH} {h c a : Addr} (H : Hand S h c) (n : S a = none) : a ≠ h ∧ a ≠ c := by
  obtain ⟨o, e⟩ := H.some_h
  obtain ⟨o', e'⟩ := H.some_c
  exact ⟨(fun z => by subst z; rw [n] at e; cases e), (fun z => by subst z; rw [n] at e'; cases e')⟩
theorem Kp.none {S S' : SH} {h c p : Addr} (k : Kp h S S') (H : Hand S' h c) (e : S' p = Option.none) : S p = Option.none := by
  cases q : S p with
  | none => rfl
  | some o =>
    by_cases z : p = h
    · subst z
      obtain ⟨o', e'⟩ := H.some_h
      rw [e] at e'; cases e'
    · rw [k p o z q] at e; cases e
def sp_law_draw : DSp := fun ds S Q _ => match ds with
  | [.ref h, .int n] => 0 < n ∧ n < 1073741824 ∧ ∃ c, Hand S h c ∧ ∀ r S', inR n r = true → Hand S' h c → Kp h S S' → Q (.int r) S'
  | _ => False
@[simp] theorem sp_law_draw_eq {h n S Q E} : sp_law_draw [.ref h, .int n] S Q E = (0 < n ∧ n < 1073741824 ∧ ∃ c, Hand S h c ∧ ∀ r S', inR n r = true → Hand S' h c → Kp h S S' → Q (.int r) S') := rfl
def t_law_draw : DS := (dSeq (dIfS (dAndT (dTst (dBin (pEq false) (dBin pIxA (dVar 0) (dC (.int 2))) (dC (.int 0)))) (dTst (dBin pLt (dBin pIxA (dVar 0) (dC (.int 1))) (dCB pLen (dCons (dBin pIxA (dVar 0) (dC (.int 0))) dNil))))) (dSeq (dAsg (dBin pIxA (dBin pIxA (dVar 0) (dC (.int 0))) (dBin pIxA (dVar 0) (dC (.int 1)))) (kName 2)) (dSeq (dAsg (dBin pAdd (dBin pIxA (dVar 0) (dC (.int 1))) (dC (.int 1))) (kSub pSetIx (dVar 0) (dC (.int 1)))) (dSeq (dAsg (dBin pMod (dCB pInt (dCons (dBin pAdd (dBin pAdd (dBin pMul (dBin pIxA (dVar 0) (dC (.int 3))) (dC (.int 69621))) (dBin pMul (dVar 2) (dC (.int 40692)))) (dC (.int 37))) dNil)) (dC (.int 2147483629))) (kSub pSetIx (dVar 0) (dC (.int 3)))) (dIfS (dTst (dBin pGe (dVar 2) (dBin pPow (dC (.int 10)) (dC (.int 18))))) (dAsg (dVar 2) (kSub pSetIx (dVar 0) (dC (.int 2)))) dNext)))) dNext) (dSeq (dIfS (dTst (dBin pGt (dBin pIxA (dVar 0) (dC (.int 2))) (dC (.int 0)))) (dSeq (dAsg (dBin pMod (dCB pInt (dCons (dBin pIxA (dVar 0) (dC (.int 2))) dNil)) (dVar 1)) (kName 3)) (dSeq (dAsg (dBin pDiv (dBin pIxA (dVar 0) (dC (.int 2))) (dVar 1)) (kSub pSetIx (dVar 0) (dC (.int 2)))) (dRet (dVar 3)))) dNext) (dSeq (dAsg (dBin pAdd (dBin pIxA (dVar 0) (dC (.int 4))) (dC (.int 1))) (kSub pSetIx (dVar 0) (dC (.int 4)))) (dSeq (dAsg (dBin pMod (dCB pInt (dCons (dBin pMul (dCB pInt (dCons (dBin pAdd (dBin pIxA (dVar 0) (dC (.int 3))) (dBin pMul (dC (.int 7919)) (dBin pIxA (dVar 0) (dC (.int 4))))) dNil)) (dC (.int 48271))) dNil)) (dC (.int 2147483647))) (kName 4)) (dSeq (dAsg (dBin pMod (dCB pInt (dCons (dBin pMul (dVar 4) (dBin pAdd (dBin pDiv (dVar 4) (dC (.int 1009))) (dC (.int 69621)))) dNil)) (dC (.int 2147483647))) (kName 4)) (dSeq (dAsg (dBin pMod (dCB pInt (dCons (dBin pMul (dVar 4) (dBin pAdd (dBin pDiv (dVar 4) (dC (.int 2003))) (dC (.int 40014)))) dNil)) (dC (.int 2147483563))) (kName 4)) (dRet (dBin pMod (dCB pInt (dCons (dBin pDiv (dVar 4) (dC (.int 16))) dNil)) (dVar 1)))))))))
def t_draw4 : DS := (dSeq (dAsg (dBin pMod (dCB pInt (dCons (dBin pMul (dVar 4) (dBin pAdd (dBin pDiv (dVar 4) (dC (.int 2003))) (dC (.int 40014)))) dNil)) (dC (.int 2147483563))) (kName 4)) (dRet (dBin pMod (dCB pInt (dCons (dBin pDiv (dVar 4) (dC (.int 16))) dNil)) (dVar 1))))
def t_draw3 : DS := (dSeq (dAsg (dBin pMod (dCB pInt (dCons (dBin pMul (dVar 4) (dBin pAdd (dBin pDiv (dVar 4) (dC (.int 1009))) (dC (.int 69621)))) dNil)) (dC (.int 2147483647))) (kName 4)) t_draw4)
def t_draw2c : DS := (dSeq (dAsg (dBin pMod (dCB pInt (dCons (dBin pMul (dCB pInt (dCons (dBin pAdd (dBin pIxA (dVar 0) (dC (.int 3))) (dBin pMul (dC (.int 7919)) (dBin pIxA (dVar 0) (dC (.int 4))))) dNil)) (dC (.int 48271))) dNil)) (dC (.int 2147483647))) (kName 4)) t_draw3)
def t_draw2b : DS := (dSeq (dAsg (dBin pAdd (dBin pIxA (dVar 0) (dC (.int 4))) (dC (.int 1))) (kSub pSetIx (dVar 0) (dC (.int 4)))) t_draw2c)
/-- the last parts of the draw -/
def t_draw2 : DS := (dSeq (dIfS (dTst (dBin pGt (dBin pIxA (dVar 0) (dC (.int 2))) (dC (.int 0)))) (dSeq (dAsg (dBin pMod (dCB pInt (dCons (dBin pIxA (dVar 0) (dC (.int 2))) dNil)) (dVar 1)) (kName 3)) (dSeq (dAsg (dBin pDiv (dBin pIxA (dVar 0) (dC (.int 2))) (dVar 1)) (kSub pSetIx (dVar 0) (dC (.int 2)))) (dRet (dVar 3)))) dNext) t_draw2b)
def t_draw1d : DS := (dIfS (dTst (dBin pGe (dVar 2) (dBin pPow (dC (.int 10)) (dC (.int 18))))) (dAsg (dVar 2) (kSub pSetIx (dVar 0) (dC (.int 2)))) dNext)
def t_draw1c : DS := (dSeq (dAsg (dBin pMod (dCB pInt (dCons (dBin pAdd (dBin pAdd (dBin pMul (dBin pIxA (dVar 0) (dC (.int 3))) (dC (.int 69621))) (dBin pMul (dVar 2) (dC (.int 40692)))) (dC (.int 37))) dNil)) (dC (.int 2147483629))) (kSub pSetIx (dVar 0) (dC (.int 3)))) t_draw1d)
def t_draw1b : DS := (dSeq (dAsg (dBin pAdd (dBin pIxA (dVar 0) (dC (.int 1))) (dC (.int 1))) (kSub pSetIx (dVar 0) (dC (.int 1)))) t_draw1c)
def t_draw1 : DS := (dSeq (dAsg (dBin pIxA (dBin pIxA (dVar 0) (dC (.int 0))) (dBin pIxA (dVar 0) (dC (.int 1)))) (kName 2)) t_draw1b)
theorem pow18 {S : SH} : pPow (.int 10) (.int 18) S = .val (.int 1000000000000000000) := by
  unfold pPow; rw [pI_int, if_pos (by decide)]; rfl
section
variable {S : SH} {h c : Addr} {i big mix n : Int}
theorem hix0 (e : S h = some (.lst [.ref c, .int i, .int big, .int mix, .int n])) : pIxA (.ref h) (.int 0) S = .val (.ref c) := pIxA_of (items_ref e) (by decide) rfl
theorem hix1 (e : S h = some (.lst [.ref c, .int i, .int big, .int mix, .int n])) : pIxA (.ref h) (.int 1) S = .val (.int i) := pIxA_of (items_ref e) (by decide) rfl
theorem hix2 (e : S h = some (.lst [.ref c, .int i, .int big, .int mix, .int n])) : pIxA (.ref h) (.int 2) S = .val (.int big) := pIxA_of (items_ref e) (by decide) rfl
theorem hix3 (e : S h = some (.lst [.ref c, .int i, .int big, .int mix, .int n])) : pIxA (.ref h) (.int 3) S = .val (.int mix) := pIxA_of (items_ref e) (by decide) rfl
theorem hix4 (e : S h = some (.lst [.ref c, .int i, .int big, .int mix, .int n])) : pIxA (.ref h) (.int 4) S = .val (.int n) := pIxA_of (items_ref e) (by decide) rfl
theorem hset1 {d : Int} (e : S h = some (.lst [.ref c, .int i, .int big, .int mix, .int n])) : pSetIx (.ref h) (.int 1) (.int d) S = .put .non h (.lst [.ref c, .int d, .int big, .int mix, .int n]) := pSetIx_of e (by decide) (by simp)
theorem hset2 {d : Int} (e : S h = some (.lst [.ref c, .int i, .int big, .int mix, .int n])) : pSetIx (.ref h) (.int 2) (.int d) S = .put .non h (.lst [.ref c, .int i, .int d, .int mix, .int n]) := pSetIx_of e (by decide) (by simp)
theorem hset3 {d : Int} (e : S h = some (.lst [.ref c, .int i, .int big, .int mix, .int n])) : pSetIx (.ref h) (.int 3) (.int d) S = .put .non h (.lst [.ref c, .int i, .int big, .int d, .int n]) := pSetIx_of e (by decide) (by simp)
theorem hset4 {d : Int} (e : S h = some (.lst [.ref c, .int i, .int big, .int mix, .int n])) : pSetIx (.ref h) (.int 4) (.int d) S = .put .non h (.lst [.ref c, .int i, .int big, .int mix, .int d]) := pSetIx_of e (by decide) (by simp)
end
theorem b64_of {x : Int} (h : 0 ≤ x ∧ x < 2147483648) : b64 x = true := by
  unfold b64
  rw [Bool.and_eq_true, decide_eq_true_eq, decide_eq_true_eq]
  exact ⟨by omega, by omega⟩
theorem inR_mod {x n : Int} (h : 0 < n) : inR n (x % n) = true := inR_iff.mpr ⟨Int.emod_nonneg _ (by omega), Int.emod_lt_of_pos _ h⟩
theorem modR {a : Int} : 0 ≤ a % 2147483647 ∧ a % 2147483647 < 2147483648 := ⟨Int.emod_nonneg _ (by decide), Int.lt_trans (Int.emod_lt_of_pos _ (by decide)) (by decide)⟩
theorem draw4 {S : SH} {h : Addr} {n x : Int} {v2 v3 : Option D} {Q : QE} {E : EK} {nx : SDl → SH → Prop} (p0 : 0 < n) (hx : 0 ≤ x ∧ x < 2147483648) (q : ∀ r, inR n r = true → Q (.int r) S) :
    t_draw4 E { nx := nx, rt := Q } [some (.ref h), some (.int n), v2, v3, some (.int x)] S := by
  simp only [t_draw4, dSeq_eq, dAsg_eq, dBin_eq, dCB_eq, dCons_eq, dVar_eq, dC_eq, dNil_eq, List.getElem?_cons_succ, List.getElem?_cons_zero]
  rw [pDiv_int (by omega), resW_val, pAdd_int, resW_val, pMul_int (.inl (b64_of hx)), resW_val, pInt_int, resW_val, pMod_int (by omega), resW_val]
  simp only [kName_eq, List.set_cons_succ, List.set_cons_zero, dRet_eq, dBin_eq, dCB_eq, dCons_eq, dVar_eq, dC_eq, dNil_eq, List.getElem?_cons_succ, List.getElem?_cons_zero]
  rw [pDiv_int (by omega), resW_val, pInt_int, resW_val, pMod_int p0, resW_val]
  exact wk.of (q _ (inR_mod p0))
theorem draw3 {S : SH} {h : Addr} {n x : Int} {v2 v3 : Option D} {Q : QE} {E : EK} {nx : SDl → SH → Prop} (p0 : 0 < n) (hx : 0 ≤ x ∧ x < 2147483648) (q : ∀ r, inR n r = true → Q (.int r) S) :
    t_draw3 E { nx := nx, rt := Q } [some (.ref h), some (.int n), v2, v3, some (.int x)] S := by
  simp only [t_draw3, dSeq_eq, dAsg_eq, dBin_eq, dCB_eq, dCons_eq, dVar_eq, dC_eq, dNil_eq, List.getElem?_cons_succ, List.getElem?_cons_zero]
  rw [pDiv_int (by omega), resW_val, pAdd_int, resW_val, pMul_int (.inl (b64_of hx)), resW_val, pInt_int, resW_val, pMod_int (by omega), resW_val]
  simp only [kName_eq, List.set_cons_succ, List.set_cons_zero]
  exact draw4 p0 modR q
theorem draw2b {S : SH} {h c : Addr} {n : Int} {v2 v3 : Option D} {Q : QE} {E : EK} {nx : SDl → SH → Prop} (p0 : 0 < n) (H : Hand S h c) (q : ∀ r S', inR n r = true → Hand S' h c → Kp h S S' → Q (.int r) S') :
    t_draw2b E { nx := nx, rt := Q } [some (.ref h), some (.int n), v2, v3, none] S := by
  obtain ⟨⟨cells, i, big, mix, m, e1, e2, e3⟩, ne⟩ := H
  simp only [t_draw2b, dSeq_eq, dAsg_eq, dBin_eq, dVar_eq, List.getElem?_cons_zero, dC_eq, hix4 e1, resW_val, pAdd_int, kSub_eq, hset4 e1, resW_put]
  simp only [t_draw2c, dSeq_eq, dAsg_eq, dBin_eq, dCB_eq, dCons_eq, dNil_eq, dVar_eq, List.getElem?_cons_zero, dC_eq, hix3 sup_same, hix4 sup_same, resW_val]
  rw [pMul_int (.inl (by decide)), resW_val, pAdd_int, resW_val, pInt_int, resW_val, pMul_int (.inr (by decide)), resW_val, pInt_int, resW_val, pMod_int (by omega), resW_val]
  simp only [kName_eq, List.set_cons_succ, List.set_cons_zero]
  exact draw3 p0 modR fun r hr => q r _ hr ⟨⟨cells, i, big, mix, _, sup_same, by rw [sup_ne ne]; exact e2, e3⟩, ne⟩ Kp.put
theorem draw2 {S : SH} {h c : Addr} {n : Int} {v2 : Option D} {Q : QE} {E : EK} {nx : SDl → SH → Prop} (p0 : 0 < n) (p1 : n < 1073741824) (H : Hand S h c) (q : ∀ r S', inR n r = true → Hand S' h c → Kp h S S' → Q (.int r) S') :
    t_draw2 E { nx := nx, rt := Q } [some (.ref h), some (.int n), v2, none, none] S := by
  have H' := H
  obtain ⟨⟨cells, i, big, mix, m, e1, e2, e3⟩, ne⟩ := H
  simp only [t_draw2, dSeq_eq, dIfS_eq, dTst_eq, dBin_eq, dVar_eq, List.getElem?_cons_zero, List.getElem?_cons_succ, dC_eq, hix2 e1, resW_val, pGt_int, isB_bl, dAsg_eq, dCB_eq, dCons_eq, dNil_eq, pInt_int]
  split
  · rw [pMod_int p0, resW_val, kName_eq]
    simp only [List.set_cons_succ, List.set_cons_zero, List.getElem?_cons_zero, List.getElem?_cons_succ]
    rw [hix2 e1, resW_val, pDiv_int ⟨p0, p1⟩, resW_val]
    simp only [kSub_eq, dVar_eq, dC_eq, List.getElem?_cons_zero]
    rw [hset2 e1, resW_put]
    simp only [dRet_eq, dVar_eq, List.getElem?_cons_zero, List.getElem?_cons_succ]
    exact wk.of (q _ _ (inR_mod p0) ⟨⟨cells, i, _, mix, m, sup_same, by rw [sup_ne ne]; exact e2, e3⟩, ne⟩ Kp.put)
  · rw [dNext_eq]
    exact draw2b p0 H' q
section
variable {S : SH} {h c : Addr} {n x : Int} {v3 v4 : Option D} {E : EK} {DD : DEnds}
theorem draw1d (H : Hand S h c) (q : ∀ S', Hand S' h c → Kp h S S' → DD.nx [some (.ref h), some (.int n), some (.int x), v3, v4] S') : t_draw1d E DD [some (.ref h), some (.int n), some (.int x), v3, v4] S := by
  have H' := H
  obtain ⟨⟨cells, i, big, mix, m, e1, e2, e3⟩, ne⟩ := H
  simp only [t_draw1d, dIfS_eq, dTst_eq, dBin_eq, dVar_eq, List.getElem?_cons_zero, List.getElem?_cons_succ, dC_eq, pow18, resW_val, pGe_int, isB_bl]
  split
  · simp only [dAsg_eq, kSub_eq, dVar_eq, dC_eq, List.getElem?_cons_zero, List.getElem?_cons_succ, hset2 e1, resW_put]
    exact q _ ⟨⟨cells, i, _, mix, m, sup_same, by rw [sup_ne ne]; exact e2, e3⟩, ne⟩ Kp.put
  · exact q _ H' Kp.rfl
theorem draw1c (H : Hand S h c) (q : ∀ S', Hand S' h c → Kp h S S' → DD.nx [some (.ref h), some (.int n), some (.int x), v3, v4] S') : t_draw1c E DD [some (.ref h), some (.int n), some (.int x), v3, v4] S := by
  obtain ⟨⟨cells, i, big, mix, m, e1, e2, e3⟩, ne⟩ := H
  simp only [t_draw1c, dSeq_eq, dAsg_eq, dBin_eq, dCB_eq, dCons_eq, dNil_eq, dVar_eq, List.getElem?_cons_zero, List.getElem?_cons_succ, dC_eq, hix3 e1, resW_val]
  rw [pMul_int (.inr (by decide)), resW_val, pMul_int (.inr (by decide)), resW_val, pAdd_int, resW_val, pAdd_int, resW_val, pInt_int, resW_val, pMod_int (by omega), resW_val]
  simp only [kSub_eq, dVar_eq, dC_eq, List.getElem?_cons_zero, hset3 e1, resW_put]
  exact draw1d ⟨⟨cells, i, big, _, m, sup_same, by rw [sup_ne ne]; exact e2, e3⟩, ne⟩ fun S' hH k => q S' hH (Kp.put.trans k)
theorem draw1b (H : Hand S h c) (q : ∀ S', Hand S' h c → Kp h S S' → DD.nx [some (.ref h), some (.int n), some (.int x), v3, v4] S') : t_draw1b E DD [some (.ref h), some (.int n), some (.int x), v3, v4] S := by
  obtain ⟨⟨cells, i, big, mix, m, e1, e2, e3⟩, ne⟩ := H
  simp only [t_draw1b, dSeq_eq, dAsg_eq, dBin_eq, dVar_eq, List.getElem?_cons_zero, dC_eq, hix1 e1, resW_val, pAdd_int, kSub_eq, hset1 e1, resW_put]
  exact draw1c ⟨⟨cells, _, big, mix, m, sup_same, by rw [sup_ne ne]; exact e2, by omega⟩, ne⟩ fun S' hH k => q S' hH (Kp.put.trans k)
end
theorem w_law_draw : bodyW ["hand", "many", "cell", "digit", "number"] t_law_draw sp_law_draw := by
  intro ds S Q E h
  unfold sp_law_draw at h
  split at h
  · rename_i a n
    obtain ⟨p0, p1, c, H, q⟩ := h
    show dSeq (dIfS _ t_draw1 dNext) t_draw2 _ _ [some (.ref a), some (.int n), none, none, none] S
    have H' := H
    obtain ⟨⟨cells, i, big, mix, m, e1, e2, e3⟩, ne⟩ := H
    simp only [dSeq_eq, dIfS_eq, dAndT_eq, dTst_eq, dBin_eq, dVar_eq, List.getElem?_cons_zero, dC_eq, hix2 e1, resW_val, pEq_int, isB_bl]
    by_cases z : big = 0
    · simp only [z, decide_true, Bool.false_eq_true, if_false, if_true, dCB_eq, dCons_eq, dBin_eq, dVar_eq, List.getElem?_cons_zero, dC_eq, hix1 e1, hix0 e1, resW_val, dNil_eq, pLen_ref e2, pLt_int, isB_bl, List.length_map]
      by_cases z2 : i < cells.length
      · simp only [z2, decide_true, if_true]
        have lt : i.toNat < cells.length := by omega
        have g : pIxA (.ref c) (.int i) S = .val (.int cells[i.toNat]) := pIxA_of (items_ref e2) e3 (by rw [List.getElem?_map, List.getElem?_eq_getElem lt]; rfl)
        simp only [t_draw1, dSeq_eq, dAsg_eq, dBin_eq, dVar_eq, List.getElem?_cons_zero, dC_eq, hix0 e1, hix1 e1, resW_val, g, kName_eq, List.set_cons_succ, List.set_cons_zero]
        exact draw1b H' fun S' hH k => draw2 p0 p1 hH fun r S'' hr hH' k' => q r S'' hr hH' (k.trans k')
      · simp only [z2, decide_false, Bool.false_eq_true, if_false, dNext_eq]
        exact draw2 p0 p1 H' q
    · simp only [z, decide_false, Bool.false_eq_true, if_false, dNext_eq]
      exact draw2 p0 p1 H' q
  · exact h.elim
end DL

set_option Elab.async false
set_option linter.all false
set_option maxRecDepth 100000
set_option maxHeartbeats 4000000
namespace DL
open PySem PySem.Spec PyProof.Rows L2

theorem Kp.items {h : Addr} {S S' : SH} {x : D} {l : List D} (k : Kp h S S') (n : x ≠ .ref h) (e : itemsOf x S = some l) : itemsOf x S' = some l := by
  cases x <;> try exact e
  rename_i a
  exact items_ref (k _ _ (fun z => n (by rw [z])) (items_inv e))
def sp_law_any : DSp := fun ds S Q _ => match ds with
  | [.ref h, x] => x ≠ .ref h ∧ ∃ l c, itemsOf x S = some l ∧ 0 < l.length ∧ l.length < 1073741824 ∧ Hand S h c ∧ ∀ d S', d ∈ l → Hand S' h c → Kp h S S' → Q d S'
  | _ => False
@[simp] theorem sp_law_any_eq {h x S Q E} : sp_law_any [.ref h, x] S Q E = (x ≠ .ref h ∧ ∃ l c, itemsOf x S = some l ∧ 0 < l.length ∧ l.length < 1073741824 ∧ Hand S h c ∧ ∀ d S', d ∈ l → Hand S' h c → Kp h S S' → Q d S') := rfl
def t_law_any : DS := (dRet (dBin pIxA (dVar 1) (dCall sp_law_draw (dCons (dVar 0) (dCons (dCB pLen (dCons (dVar 1) dNil)) dNil)))))
theorem pLen_items {x : D} {S : SH} {l : List D} (h : itemsOf x S = some l) : pLen [x] S = .val (.int l.length) := by
  cases x <;> try (cases h; done)
  · cases h; rfl
  · simp only [pLen, h]
  · cases h; rfl
theorem w_law_any : bodyW ["hand", "some"] t_law_any sp_law_any := by
  intro ds S Q E h
  unfold sp_law_any at h
  split at h
  · rename_i a x
    obtain ⟨n, l, c, e, l0, l1, H, q⟩ := h
    show t_law_any _ _ [some (.ref a), some x] S
    simp only [t_law_any, dRet_eq, dBin_eq, dVar_eq, List.getElem?_cons_succ, List.getElem?_cons_zero, dCall_eq, dCons_eq, dCB_eq, dNil_eq, pLen_items e, resW_val, sp_law_draw_eq]
    refine ⟨by omega, by omega, c, H, fun r S' hr hH k => ?_⟩
    obtain ⟨r0, r1⟩ := inR_iff.mp hr
    obtain ⟨d, g1, g2⟩ := pIx_seq (k.items n e) r0 (by omega)
    rw [g2, resW_val]
    exact wk.of (q d S' (List.mem_of_getElem? g1) hH k)
  · exact h.elim
def sp_law_mixed : DSp := fun ds S Q _ => match ds with
  | [.ref h, x] => ∃ l c, itemsOf x S = some l ∧ l.length < 1000000 ∧ Hand S h c ∧ ∀ p l' S', S p = none → l'.Perm l → S' p = some (.lst l') → Hand S' h c → Kp h S S' → Q (.ref p) S'
  | _ => False
@[simp] theorem sp_law_mixed_eq {h x S Q E} : sp_law_mixed [.ref h, x] S Q E = (∃ l c, itemsOf x S = some l ∧ l.length < 1000000 ∧ Hand S h c ∧ ∀ p l' S', S p = none → l'.Perm l → S' p = some (.lst l') → Hand S' h c → Kp h S S' → Q (.ref p) S') := rfl
def t_mixed2 : DS := (dSeq (dWhile (dTst (dBin pGt (dCB pLen (dCons (dVar 2) dNil)) (dC (.int 0)))) (dExpr (dMeth "list" pAppend (dVar 3) (dCons (dMeth "list" pPop (dVar 2) (dCons (dCall sp_law_draw (dCons (dVar 0) (dCons (dCB pLen (dCons (dVar 2) dNil)) dNil))) dNil)) dNil)))) (dRet (dVar 3)))
def t_law_mixed : DS := (dSeq (dPar 2 3 (dCons (dCB pList (dCons (dVar 1) dNil)) (dCons (dLst dNil) dNil))) t_mixed2)
theorem pPop_of {p : Addr} {l : List D} {i : Int} {S : SH} (h : S p = some (.lst l)) (h0 : 0 ≤ i) (h1 : i < l.length) (h2 : l.length < 1000000) : ∃ d, l[i.toNat]? = some d ∧ pPop (.ref p) [.int i] S = .put d p (.lst (l.eraseIdx i.toNat)) := by
  have lt : i.toNat < l.length := by omega
  refine ⟨l[i.toNat], List.getElem?_eq_getElem lt, ?_⟩
  have c : (decide (-(2 ^ 63) ≤ i) && decide (i < 2 ^ 63)) = true := by
    rw [Bool.and_eq_true, decide_eq_true_eq, decide_eq_true_eq]
    exact ⟨by omega, by omega⟩
  simp only [pPop, lstAt_ref h]
  rw [if_pos c]
  simp only [ixN_pos h0 h1, List.getElem?_eq_getElem lt]
theorem perm_erase {α : Type} {l : List α} {i : Nat} {d : α} (h : l[i]? = some d) : (d :: l.eraseIdx i).Perm l := by
  induction l generalizing i with
  | nil => simp at h
  | cons a l ih =>
    cases i with
    | zero => simp at h; subst h; exact List.Perm.refl _
    | succ i =>
      have := ih (i := i) (by simpa using h)
      rw [List.eraseIdx_cons_succ]
      exact (List.Perm.swap a d _).trans (this.cons a)
theorem w_law_mixed : bodyW ["hand", "some", "left", "found"] t_law_mixed sp_law_mixed := by
  intro ds S Q E h
  unfold sp_law_mixed at h
  split at h
  · rename_i a x
    obtain ⟨l, c, e, lz, H, q⟩ := h
    show t_law_mixed _ _ [some (.ref a), some x, none, none] S
    simp only [t_law_mixed, dSeq_eq, dPar_eq, dCons_eq, dCB_eq, dVar_eq, List.getElem?_cons_succ, List.getElem?_cons_zero, dNil_eq, pList_items e, resW_new, dLst_eq]
    refine fun p hp => ⟨by decide, fun r hr => ?_⟩
    obtain ⟨hr0, rp⟩ := none_of_sup hr
    simp only [List.set_cons_succ, List.set_cons_zero, t_mixed2, dSeq_eq, dWhile_eq]
    have H2 : Hand (sup (sup S p (.lst l)) r (.lst [])) a c := (H.new hp).new hr
    have np := H.ne_new hp
    have nr := H.ne_new hr0
    refine while_inv (fun n τ S' => τ = [some (.ref a), some x, some (.ref p), some (.ref r)] ∧ Hand S' a c ∧ Kp a S S' ∧ ∃ l1 l2, S' p = some (.lst l1) ∧ S' r = some (.lst l2) ∧ (l1 ++ l2).Perm l ∧ l1.length = n) l.length
      ⟨rfl, H2, (Kp.le (SLe.new hp)).trans (Kp.le (SLe.new hr)), l, [], sup_old sup_same hr, sup_same, by simp, rfl⟩ ?_
    rintro n τ S' ⟨rfl, H', K', l1, l2, e1, e2, pm, ln⟩ P hP
    have len : l1.length + l2.length = l.length := by have := pm.length_eq; rwa [List.length_append] at this
    simp only [dTst_eq, dBin_eq, dCB_eq, dCons_eq, dVar_eq, List.getElem?_cons_succ, List.getElem?_cons_zero, dNil_eq, dC_eq, pLen_ref e1, resW_val, pGt_int, isB_bl]
    by_cases z : 0 < (l1.length : Int)
    · simp only [z, decide_true, if_true, dExpr_eq, dMeth_eq, dVar_eq, List.getElem?_cons_succ, List.getElem?_cons_zero, tyIs_ref e2, true_and, dCons_eq, tyIs_ref e1, dCall_eq, dCB_eq, dNil_eq, pLen_ref e1, resW_val, sp_law_draw_eq]
      refine ⟨by omega, c, H', fun i S1 hi H1 k1 => ?_⟩
      obtain ⟨i0, i1⟩ := inR_iff.mp hi
      obtain ⟨d, g1, g2⟩ := pPop_of (k1 _ _ np.1 e1) i0 i1 (by omega)
      rw [g2, resW_put]
      have er : sup S1 p (.lst (l1.eraseIdx i.toNat)) r = some (.lst l2) := by rw [sup_ne rp]; exact k1 _ _ nr.1 e2
      rw [pAppend_of er (Nat.lt_of_le_of_lt (by omega) (show 1000000 < sizeLine by decide)), resW_put]
      have lt : i.toNat < l1.length := by omega
      refine wk.of (hP (n - 1) _ _ (by omega) ⟨rfl, ?_, ?_, l1.eraseIdx i.toNat, l2 ++ [d], ?_, sup_same, ?_, ?_⟩)
      · exact (H1.put np.1 np.2).put nr.1 nr.2
      · exact ((K'.trans k1).new hp).new hr0
      · rw [sup_ne (Ne.symm rp)]; exact sup_same
      · refine List.Perm.trans ?_ pm
        have := perm_erase g1
        rw [← List.append_assoc]
        refine (List.perm_append_comm).trans ?_
        exact (this.append_right l2)
      · rw [List.length_eraseIdx_of_lt lt]; omega
    · simp only [z, decide_false, Bool.false_eq_true, if_false, dRet_eq, dVar_eq, List.getElem?_cons_succ, List.getElem?_cons_zero]
      have : l1 = [] := List.length_eq_zero_iff.mp (by omega)
      subst this
      exact wk.of (q r l2 S' hr0 pm e2 H' K')
  · exact h.elim
def sp_law_some : DSp := fun ds S Q _ => match ds with
  | [.ref h, x, .int k] => x ≠ .ref h ∧ 0 < k ∧ k < 1073741824 ∧ ∃ l c, itemsOf x S = some l ∧ l.length ≤ 1000000 ∧ Hand S h c ∧ ∀ l' S', l'.Sublist l → Hand S' h c → Kp h S S' → Q (.tup l') S'
  | _ => False
@[simp] theorem sp_law_some_eq {h x k S Q E} : sp_law_some [.ref h, x, .int k] S Q E = (x ≠ .ref h ∧ 0 < k ∧ k < 1073741824 ∧ ∃ l c, itemsOf x S = some l ∧ l.length ≤ 1000000 ∧ Hand S h c ∧ ∀ l' S', l'.Sublist l → Hand S' h c → Kp h S S' → Q (.tup l') S') := rfl
def t_law_some : DS := (dRet (dCB pTuple (dCons (dComp (iVal (dVar 1)) (kName 3) (dTst (dBin pGt (dCall sp_law_draw (dCons (dVar 0) (dCons (dVar 2) dNil))) (dC (.int 0)))) (dVar 3) [3]) dNil)))
theorem Kp.src {h : Addr} {S : SH} {x : D} {l : List D} (n : x ≠ .ref h) (e : itemsOf x S = some l) : ∃ src, srcOf x S = some src ∧ ∀ i S', Kp h S S' → src i S' = some l[i]? := by
  cases x <;> try (cases e; done)
  · cases e; exact ⟨_, _root_.rfl, fun i S' _ => _root_.rfl⟩
  · rename_i a
    have e' := items_inv e
    exact ⟨_, srcOf_ref e', fun i S' m => by simp only [srcLst, m a _ (fun z => n (by rw [z])) e']⟩
  · cases e; exact ⟨_, _root_.rfl, fun i S' _ => _root_.rfl⟩
theorem w_law_some : bodyW ["hand", "some", "share", "one"] t_law_some sp_law_some := by
  intro ds S Q E h
  unfold sp_law_some at h
  split at h
  · rename_i a x k
    obtain ⟨n, k0, k1, l, c, e, lz, H, q⟩ := h
    show t_law_some _ _ [some (.ref a), some x, some (.int k), none] S
    obtain ⟨src, e1, e2⟩ := Kp.src n e
    simp only [t_law_some, dRet_eq, dCB_eq, dCons_eq, dComp_eq, iVal_eq, dVar_eq, List.getElem?_cons_succ, List.getElem?_cons_zero, e1]
    intro p hp
    have np := H.ne_new hp
    refine comp_inv l (fun i S' => Hand S' a c ∧ Kp a S S' ∧ ∃ l', S' p = some (.lst l') ∧ l'.Sublist (l.take i)) ⟨H.new hp, Kp.le (SLe.new hp), [], sup_same, List.nil_sublist _⟩ (fun i S' _ hS => e2 i S' hS.2.1) ?_ ?_
    · rintro i d S' hd ⟨H', K', l', e', sb⟩ P hP
      simp only [kName_eq, wipeD, List.set_cons_succ, List.set_cons_zero, dTst_eq, dBin_eq, dCall_eq, dCons_eq, dVar_eq, List.getElem?_cons_succ, List.getElem?_cons_zero, dNil_eq, sp_law_draw_eq, dC_eq]
      refine ⟨k0, k1, c, H', fun r S1 hr H1 K1 => ?_⟩
      rw [pGt_int, resW_val, isB_bl]
      have e3 := K1 _ _ np.1 e'
      have tk := take_snoc hd
      have ll : l'.length ≤ l.length := Nat.le_trans sb.length_le (by rw [List.length_take]; omega)
      split
      · rw [e3]
        refine ⟨Nat.lt_of_le_of_lt (Nat.le_trans ll lz) (by decide), wk.of (hP _ ⟨H1.put np.1 np.2, (K'.trans K1).new hp, l' ++ [d], sup_same, ?_⟩)⟩
        rw [tk]
        exact sb.append (List.Sublist.refl _)
      · refine wk.of (hP _ ⟨H1, K'.trans K1, l', e3, ?_⟩)
        rw [tk]
        exact sb.trans (List.sublist_append_left _ _)
    · rintro S' ⟨H', K', l', e', sb⟩
      rw [List.take_length] at sb
      simp only [dNil_eq, pTuple_ref e', resW_val]
      exact wk.of (q l' S' sb H' K')
  · exact h.elim
end DL

set_option Elab.async false
set_option linter.all false
set_option maxRecDepth 100000
set_option maxHeartbeats 4000000
namespace DL
open PySem PySem.Spec PyProof.Rows L2

/-! ### a new hand -/
def sp_law_hand : DSp := fun ds S Q _ => match ds with
  | [.fro l] => ∃ ns : List Int, l = ns.map D.int ∧ ∀ h c S', S h = none → Hand S' h c → SLe S S' → Q (.ref h) S'
  | _ => False
def t_hand2 : DS := (dRet (dLst (dCons (dVar 1) (dCons (dC (.int 0)) (dCons (dC (.int 0)) (dCons (dBin pAdd (dC (.int 67)) (dBin pMul (dC (.int 5)) (dCB pLen (dCons (dVar 1) dNil)))) (dCons (dC (.int 0)) dNil)))))))
def t_law_hand : DS := (dSeq (dAsg (dComp (iVal (dSlice (dVar 0) oNone (oSome (dC (.int 63))))) (kName 2) dYes (dCB pAbs (dCons (dCB pInt (dCons (dVar 2) dNil)) dNil)) [2]) (kName 1)) t_hand2)
theorem w_law_hand : bodyW ["script", "cells", "cell"] t_law_hand sp_law_hand := by
  intro ds S Q E h
  unfold sp_law_hand at h
  split at h
  · rename_i l
    obtain ⟨ns, rfl, q⟩ := h
    show t_law_hand _ _ [some (.fro (ns.map D.int)), none, none] S
    simp only [t_law_hand, dSeq_eq, dAsg_eq, dComp_eq, iVal_eq, dSlice_eq, dVar_eq, List.getElem?_cons_zero, oNone_eq, oSome_eq, dC_eq]
    rw [show pSlice (.fro (ns.map D.int)) none (some 63) S = .new (.lst (cutD (ns.map D.int) none (some 63))) from rfl, resW_new, cut_to (by decide), ← List.map_take]
    intro p hp
    rw [srcOf_ref sup_same]
    intro r hr
    refine comp_map (ns.take 63) D.int (fun x => .int (if x < 0 then -x else x)) hr (Nat.le_trans (show (ns.take 63).length ≤ 1000 by rw [List.length_take]; omega) (by decide)) (fun i S' _ le => by simp only [srcLst, le _ _ sup_same]; rfl) (fun x S' hx le R hR => ?_) ?_
    · simp only [kName_eq, wipeD, List.set_cons_succ, List.set_cons_zero, dCB_eq, dCons_eq, dVar_eq, List.getElem?_cons_succ, List.getElem?_cons_zero, dNil_eq, pInt_int, pAbs_int, resW_val]
      exact hR _ SLe.rfl
    · rw [show ((ns.take 63).map fun x => D.int (if x < 0 then -x else x)) = ((ns.take 63).map fun x => if x < 0 then -x else x).map D.int from by rw [List.map_map]; rfl]
      generalize ((ns.take 63).map fun x => if x < 0 then -x else x) = cells
      simp only [kName_eq, List.set_cons_succ, List.set_cons_zero, t_hand2, dRet_eq, dLst_eq, dCons_eq, dVar_eq, List.getElem?_cons_succ, List.getElem?_cons_zero, dC_eq, dBin_eq, dCB_eq, dNil_eq, pLen_ref sup_same, resW_val]
      rw [pMul_int (.inl (by decide)), resW_val, pAdd_int, resW_val]
      refine ⟨len_small (by simp), fun t ht => ?_⟩
      obtain ⟨ht0, tr⟩ := none_of_sup ht
      have hs : S t = none := (none_of_sup ht0).1
      refine wk.of (q t r _ hs ⟨⟨cells, 0, 0, _, 0, sup_same, sup_old sup_same ht, by decide⟩, Ne.symm tr⟩ ((SLe.new hp).trans ((SLe.new hr).trans (SLe.new ht))))
  · exact h.elim
/-! ### the same -/
/-- None, a bool, an int, a text -/
def leaf : D → Prop
  | .non => True
  | .bl _ => True
  | .int _ => True
  | .str x => SeqAt.shaped (.str x) = true
  | _ => False
def Sm (S : SH) : Nat → D → D → Prop
  | 0, _, _ => False
  | n + 1, a, b => (∃ l l', a = .tup l ∧ b = .tup l' ∧ l.length = l'.length ∧ l.length ≤ sizeLine ∧ ∀ q ∈ l.zip l', Sm S n q.1 q.2) ∨
    (∃ p p' l l', a = .ref p ∧ b = .ref p' ∧ S p = some (.lst l) ∧ S p' = some (.lst l') ∧ l.length = l'.length ∧ l.length ≤ sizeLine ∧ ∀ q ∈ l.zip l', Sm S n q.1 q.2) ∨ (a = b ∧ leaf a)
theorem Sm.mono {S S' : SH} (m : SLe S S') : ∀ {n : Nat} {a b : D}, Sm S n a b → Sm S' n a b
  | 0, _, _, h => h.elim
  | n + 1, a, b, h => by
    rcases h with ⟨l, l', e1, e2, e3, e4, h⟩ | ⟨p, p', l, l', e1, e2, e3, e4, e5, e6, h⟩ | h
    · exact .inl ⟨l, l', e1, e2, e3, e4, fun q hq => Sm.mono m (h q hq)⟩
    · exact .inr (.inl ⟨p, p', l, l', e1, e2, m _ _ e3, m _ _ e4, e5, e6, fun q hq => Sm.mono m (h q hq)⟩)
    · exact .inr (.inr h)
/-- data without objects, n deep at most -/
def pureD : Nat → D → Prop
  | 0, _ => False
  | n + 1, d => (∃ l, d = .tup l ∧ l.length ≤ sizeLine ∧ ∀ x ∈ l, pureD n x) ∨ leaf d
theorem zip_same {α : Type} : ∀ {l : List α} {q : α × α}, q ∈ l.zip l → q.1 = q.2 ∧ q.1 ∈ l
  | [], q, h => by simp at h
  | x :: l, q, h => by
    rw [List.zip_cons_cons] at h
    rcases List.mem_cons.mp h with e | h
    · subst e; exact ⟨rfl, List.mem_cons_self ..⟩
    · obtain ⟨a, b⟩ := zip_same h
      exact ⟨a, List.mem_cons_of_mem _ b⟩
theorem Sm.refl {S : SH} : ∀ {n : Nat} {d : D}, pureD n d → Sm S n d d
  | 0, _, h => h.elim
  | n + 1, d, h => by
    rcases h with ⟨l, rfl, z, h⟩ | h
    · refine .inl ⟨l, l, rfl, rfl, rfl, z, fun q hq => ?_⟩
      obtain ⟨e1, e2⟩ := zip_same hq
      rw [← e1]
      exact Sm.refl (h _ e2)
    · exact .inr (.inr ⟨rfl, h⟩)
theorem Sm.lst {S : SH} {n : Nat} {p p' : Addr} {l : List D} (e : S p = some (.lst l)) (e' : S p' = some (.lst l)) (z : l.length ≤ sizeLine) (h : ∀ x ∈ l, pureD n x) : Sm S (n + 1) (.ref p) (.ref p') :=
  .inr (.inl ⟨p, p', l, l, rfl, rfl, e, e', rfl, z, fun q hq => by
    obtain ⟨e1, e2⟩ := zip_same hq
    rw [← e1]
    exact Sm.refl (h _ e2)⟩)
theorem pureD.up : ∀ {n m : Nat} {d : D}, n ≤ m → pureD n d → pureD m d
  | 0, _, _, _, h => h.elim
  | n + 1, 0, _, l, _ => by omega
  | n + 1, m + 1, d, l, h => by
    rcases h with ⟨xs, e, z, h⟩ | h
    · exact .inl ⟨xs, e, z, fun x hx => pureD.up (by omega) (h x hx)⟩
    · exact .inr h
def sp_law_same (n : Nat) : DSp := fun ds S Q _ => match ds with | [a, b] => Sm S n a b ∧ Q (.bl true) S | _ => False
@[simp] theorem sp_law_same_eq {n a b S Q E} : sp_law_same n [a, b] S Q E = (Sm S n a b ∧ Q (.bl true) S) := rfl
def t_sameB : DS := (dSeq (dIfS (dOrT (dTst (dIsi ["bool"] (dVar 1))) (dOrT (dTst (dIsi ["bool"] (dVar 0))) (dOrT (dTst (dBin (pIs false) (dVar 1) (dC .non))) (dTst (dBin (pIs false) (dVar 0) (dC .non)))))) (dRet (dAnd (dBin (pEq false) (dIsi ["bool"] (dVar 0)) (dIsi ["bool"] (dVar 1))) (dAnd (dBin (pEq false) (dBin (pIs false) (dVar 0) (dC .non)) (dBin (pIs false) (dVar 1) (dC .non))) (dBin (pEq false) (dVar 0) (dVar 1))))) dNext) (dRet (dAnd (dBin (pEq false) (dIsi ["str"] (dVar 0)) (dIsi ["str"] (dVar 1))) (dAnd (dIsi ["int", "str"] (dVar 0)) (dBin (pEq false) (dVar 0) (dVar 1))))))
def t_sameA2 (sp : DSp) : DS := (dRet (dAnd (dBin (pEq false) (dCB pLen (dCons (dVar 0) dNil)) (dCB pLen (dCons (dVar 1) dNil))) (dCB pAll (dCons (dComp (iZip2 (dVar 0) (dVar 1)) (kTup 2 (kCons (kName 2) (kCons (kName 3) kNil))) dYes (dCall sp (dCons (dVar 2) (dCons (dVar 3) dNil))) [2, 3]) dNil))))
def t_sameA (sp : DSp) : DS := (dSeq (dIfS (dOrT (dTst (dBin (pEq true) (dIsi ["tuple"] (dVar 0)) (dIsi ["tuple"] (dVar 1)))) (dNotT (dTst (dIsi ["tuple", "list"] (dVar 0))))) (dRet (dC (.bl false))) dNext) (t_sameA2 sp))
def t_law_same (sp : DSp) : DS := (dSeq (dIfS (dTst (dIsi ["tuple", "list"] (dVar 1))) (t_sameA sp) dNext) t_sameB)
theorem pEq_bl {S : SH} {b x y : Bool} : pEq b (.bl x) (.bl y) S = .val (.bl (if b then !decide (x = y) else decide (x = y))) := by
  have h : pEq b (.bl x) (.bl y) S = .val (.bl (if b then !PyData.eqv (.bool x) (.bool y) else PyData.eqv (.bool x) (.bool y))) := rfl
  rw [h]
  have e : PyData.eqv (.bool x) (.bool y) = decide (x = y) := by cases x <;> cases y <;> rfl
  rw [e]
theorem pEq_leaf {S : SH} {a : D} (h : leaf a) : pEq false a a S = .val (.bl true) := by
  cases a with
  | non => rfl
  | bl b => rw [pEq_bl]; simp
  | int i => rw [pEq_int]; simp
  | str x =>
    have h' : SeqAt.shaped (.str x) = true := h
    have e : pEq false (.str x) (.str x) S = if SeqAt.shaped (.str x) && SeqAt.shaped (.str x) then .val (.bl (PyData.eqv (.str x) (.str x))) else .bad := rfl
    rw [e, h', Bool.and_self, if_pos rfl]
    have : PyData.eqv (.str x) (.str x) = true := by
      show (x == x) = true
      exact beq_self_eq_true x
    rw [this]
  | _ => exact h.elim
theorem sameA2 {S : SH} {n : Nat} {x y : D} {l l' : List D} {src : Src} {E : EK} {nx : SDl → SH → Prop} {Q : QE} (e1 : itemsOf x S = some l) (e2 : itemsOf y S = some l') (e3 : l.length = l'.length) (e4 : l.length ≤ sizeLine) (h : ∀ q ∈ l.zip l', Sm S n q.1 q.2)
    (hs : zipOf x y S = some src) (hsrc : ∀ i S', SLe S S' → src i S' = some ((l.zip l').map fun q => D.tup [q.1, q.2])[i]?) (q : Q (.bl true) S) : t_sameA2 (sp_law_same n) E { nx := nx, rt := Q } [some x, some y, none, none] S := by
  simp only [t_sameA2, dRet_eq, dAnd_eq, dBin_eq, dCB_eq, dCons_eq, dVar_eq, List.getElem?_cons_succ, List.getElem?_cons_zero, dNil_eq, pLen_items e1, pLen_items e2, resW_val, pEq_int, e3, decide_true, Bool.false_eq_true, if_false, if_true, isB_bl, dComp_eq, iZip2_eq, hs]
  refine all_comp (l.zip l') (fun q => D.tup [q.1, q.2]) (fun _ => true) (by rw [List.length_zip]; omega) (fun i S' _ le => hsrc i S' le) (fun z S' hz le R hR => ?_) (fun S' le => ?_)
  · simp only [kTup_eq, items_tup, List.length_cons, List.length_nil, true_and, kCons_eq, kName_eq, kNil_eq, wipeD, List.set_cons_succ, List.set_cons_zero, dCall_eq, dCons_eq, dVar_eq, List.getElem?_cons_succ, List.getElem?_cons_zero, dNil_eq, sp_law_same_eq]
    exact ⟨(h z hz).mono le, hR _ SLe.rfl⟩
  · rw [List.all_eq_true.mpr fun _ _ => rfl]
    exact ⟨S, le, q⟩
theorem w_law_same (n : Nat) : bodyW ["one", "due", "two", "other"] (t_law_same (sp_law_same n)) (sp_law_same (n + 1)) := by
  intro ds S Q E h
  unfold sp_law_same at h
  split at h
  · rename_i a b
    obtain ⟨h, q⟩ := h
    show t_law_same (sp_law_same n) _ _ [some a, some b, none, none] S
    rcases h with ⟨l, l', rfl, rfl, e3, e4, h⟩ | ⟨p, p', l, l', rfl, rfl, e1, e2, e3, e4, h⟩ | ⟨rfl, h⟩
    · simp only [t_law_same, dSeq_eq, dIfS_eq, dTst_eq, dIsi_eq, dVar_eq, List.getElem?_cons_succ, List.getElem?_cons_zero, tyD, isB_bl]
      rw [show isiAny "tuple" ["tuple", "list"] = true from rfl, if_pos rfl]
      simp only [t_sameA, dSeq_eq, dIfS_eq, dOrT_eq, dNotT_eq, dTst_eq, dBin_eq, dIsi_eq, dVar_eq, List.getElem?_cons_succ, List.getElem?_cons_zero, tyD, pEq_bl, resW_val, isB_bl]
      rw [show isiAny "tuple" ["tuple", "list"] = true from rfl]
      simp only [decide_true, Bool.not_true, if_true, Bool.false_eq_true, if_false, dNext_eq]
      exact sameA2 (l := l) (l' := l') rfl rfl e3 e4 h rfl (fun i S' _ => zip_src) q
    · have t1 : tyD (.ref p) S = some "list" := by simp only [tyD, e1]
      have t2 : tyD (.ref p') S = some "list" := by simp only [tyD, e2]
      simp only [t_law_same, dSeq_eq, dIfS_eq, dTst_eq, dIsi_eq, dVar_eq, List.getElem?_cons_succ, List.getElem?_cons_zero, t1, t2, isB_bl]
      rw [show isiAny "list" ["tuple", "list"] = true from rfl, if_pos rfl]
      simp only [t_sameA, dSeq_eq, dIfS_eq, dOrT_eq, dNotT_eq, dTst_eq, dBin_eq, dIsi_eq, dVar_eq, List.getElem?_cons_succ, List.getElem?_cons_zero, t1, t2, pEq_bl, resW_val, isB_bl]
      rw [show isiAny "list" ["tuple", "list"] = true from rfl]
      simp only [decide_true, Bool.not_true, if_true, Bool.false_eq_true, if_false, dNext_eq]
      refine sameA2 (l := l) (l' := l') (src := srcZip (srcLst p) (srcLst p')) (items_ref e1) (items_ref e2) e3 e4 h (by simp only [zipOf, e1, e2]) (fun i S' le => ?_) q
      rw [← zip_src (S := S')]
      simp only [srcZip, srcLst, srcSeq, le _ _ e1, le _ _ e2]
    · have hh := pEq_leaf (S := S) h
      cases a with
      | non => simp [t_law_same, t_sameB, tyD, isiAny, subTy, pEq_bl, hh]; exact wk.of q
      | bl b => simp [t_law_same, t_sameB, tyD, isiAny, subTy, pEq_bl, hh]; exact wk.of q
      | int i => simp [t_law_same, t_sameB, tyD, isiAny, subTy, pEq_bl, hh]; exact wk.of q
      | str x => simp [t_law_same, t_sameB, tyD, isiAny, subTy, pEq_bl, hh]; exact wk.of q
      | _ => exact h.elim
  · exact h.elim
end DL

set_option Elab.async false
set_option linter.all false
set_option maxRecDepth 100000
set_option maxHeartbeats 4000000
namespace DL
open PySem PySem.Spec PyProof.Rows L2

/-! ### a hall by draws -/
/-- books that grow: lists of ints below N, m long at most -/
structure J (h c : Addr) (bs : List Addr) (N : Int) (m : Nat) (S1 S' : SH) : Prop where
  hand : Hand S' h c
  keep : ∀ a o, a ≠ h → a ∉ bs → S1 a = some o → S' a = some o
  books : ∀ b ∈ bs, ∃ ns : List Int, S' b = some (.lst (ns.map D.int)) ∧ (∀ x ∈ ns, inR N x = true) ∧ ns.length ≤ m
theorem J.draw {h c : Addr} {bs : List Addr} {N : Int} {m : Nat} {S1 S' S'' : SH} (j : J h c bs N m S1 S') (nb : ∀ b ∈ bs, b ≠ h ∧ b ≠ c) (H : Hand S'' h c) (k : Kp h S' S'') : J h c bs N m S1 S'' :=
  ⟨H, fun a o n1 n2 e => k a o n1 (j.keep a o n1 n2 e), fun b hb => let ⟨ns, e, r⟩ := j.books b hb; ⟨ns, k b _ (nb b hb).1 e, r⟩⟩
theorem J.up {h c : Addr} {bs : List Addr} {N : Int} {m m' : Nat} {S1 S' : SH} (j : J h c bs N m S1 S') (l : m ≤ m') : J h c bs N m' S1 S' :=
  ⟨j.hand, j.keep, fun b hb => let ⟨ns, e, r, z⟩ := j.books b hb; ⟨ns, e, r, Nat.le_trans z l⟩⟩
theorem J.app {h c b : Addr} {bs : List Addr} {N x : Int} {m : Nat} {S1 S' : SH} {ns : List Int} (j : J h c bs N m S1 S') (nb : ∀ b ∈ bs, b ≠ h ∧ b ≠ c) (hb : b ∈ bs) (e : S' b = some (.lst (ns.map D.int))) (hx : inR N x = true)
    (hn : ∀ x ∈ ns, inR N x = true) (hm : ns.length ≤ m) : J h c bs N (m + 1) S1 (sup S' b (.lst (ns.map D.int ++ [.int x]))) := by
  refine ⟨j.hand.put (nb b hb).1 (nb b hb).2, fun a o n1 n2 ea => ?_, fun b' hb' => ?_⟩
  · rw [sup_ne (fun z => n2 (by rw [z]; exact hb))]
    exact j.keep a o n1 n2 ea
  · by_cases z : b' = b
    · subst z
      refine ⟨ns ++ [x], by rw [sup_same, List.map_append]; rfl, fun y hy => ?_, by rw [List.length_append]; simp; omega⟩
      rcases List.mem_append.mp hy with hy | hy
      · exact hn y hy
      · rw [List.mem_singleton.mp hy]; exact hx
    · obtain ⟨ns', e', r, z'⟩ := j.books b' hb'
      exact ⟨ns', by rw [sup_ne z]; exact e', r, by omega⟩
theorem pIx_ref {S : SH} {B : Addr} {bs : List Addr} {i : Int} (e : S B = some (.lst (bs.map D.ref))) (hi : inR bs.length i = true) : ∃ b, bs[i.toNat]? = some b ∧ b ∈ bs ∧ pIxA (.ref B) (.int i) S = .val (.ref b) := by
  obtain ⟨h0, h1⟩ := inR_iff.mp hi
  have lt : i.toNat < bs.length := by omega
  refine ⟨bs[i.toNat], List.getElem?_eq_getElem lt, List.getElem_mem lt, pIxA_of (items_ref e) h0 ?_⟩
  rw [List.getElem?_map, List.getElem?_eq_getElem lt]; rfl
theorem pIx_ints {S : SH} {O : Addr} {os : List Int} {i : Int} (e : S O = some (.lst (os.map D.int))) (hi : inR os.length i = true) : ∃ x, x ∈ os ∧ pIxA (.ref O) (.int i) S = .val (.int x) := by
  obtain ⟨h0, h1⟩ := inR_iff.mp hi
  have lt : i.toNat < os.length := by omega
  refine ⟨os[i.toNat], List.getElem_mem lt, pIxA_of (items_ref e) h0 ?_⟩
  rw [List.getElem?_map, List.getElem?_eq_getElem lt]; rfl
def t_law_hall_1 : DS := (dRet (dLst (dCons (dCB pTuple (dCons (dComp (iVal (dVar 5)) (kName 14) dYes (dCB pTuple (dCons (dCB pSorted (dCons (dSlice (dVar 14) oNone (oSome (dVar 2))) dNil)) dNil)) [14]) dNil)) (dCons (dVar 13) dNil))))
def t_law_hall_2 : DS := (dSeq (dIfS (dTst (dBin (pEq false) (dCall sp_law_draw (dCons (dVar 0) (dCons (dC (.int 2)) dNil))) (dC (.int 0)))) (dAsg (dCall sp_law_some (dCons (dVar 0) (dCons (dCB pList (dCons (dVar 13) dNil)) (dCons (dC (.int 5)) dNil)))) (kName 13)) dNext) t_law_hall_1)
def t_law_hall_3 : DS := (dSeq (dAsg (dTupRg (rg1 (dVar 3))) (kName 13)) t_law_hall_2)
def t_law_hall_4 : DS := (dSeq (dIfS (dTst (dBin (pEq false) (dCall sp_law_draw (dCons (dVar 0) (dCons (dC (.int 3)) dNil))) (dC (.int 0)))) (dAsg (dLst dNil) (kSub pSetIx (dVar 5) (dCall sp_law_draw (dCons (dVar 0) (dCons (dVar 3) dNil))))) dNext) t_law_hall_3)
def t_law_hall_5 : DS := (dFor (iRng1 (dCall sp_law_draw (dCons (dVar 0) (dCons (dBin pAdd (dVar 11) (dC (.int 1))) dNil)))) (kName 12) (dExpr (dMeth "list" pAppend (dBin pIxA (dVar 5) (dVar 6)) (dCons (dCall sp_law_draw (dCons (dVar 0) (dCons (dVar 3) dNil))) dNil))))
def t_law_hall_6 : DS := (dIfS (dOrT (dTst (dBin pLt (dVar 4) (dC (.int 3)))) (dTst (dBin (pEq false) (dCall sp_law_draw (dCons (dVar 0) (dCons (dC (.int 3)) dNil))) (dC (.int 0))))) t_law_hall_5 dNext)
def t_law_hall_7 : DS := (dSeq (dFor (iRng1 (dVar 3)) (kName 6) t_law_hall_6) t_law_hall_4)
def t_law_hall_8 : DS := (dSeq (dAsg (dBin pAdd (dC (.int 1)) (dCall sp_law_draw (dCons (dVar 0) (dCons (dVar 2) dNil)))) (kName 11)) t_law_hall_7)
def t_law_hall_9 : DS := (dExpr (dMeth "list" pAppend (dBin pIxA (dVar 5) (dVar 9)) (dCons (dVar 10) dNil)))
def t_law_hall_10 : DS := (dSeq (dIfS (dTst (dBin (pEq false) (dCall sp_law_draw (dCons (dVar 0) (dCons (dC (.int 2)) dNil))) (dC (.int 0)))) (dPar 9 10 (dCons (dVar 10) (dCons (dVar 9) dNil))) dNext) t_law_hall_9)
def t_law_hall_11 : DS := (dSeq (dPar 9 10 (dCons (dBin pIxA (dVar 7) (dVar 8)) (dCons (dBin pIxA (dVar 7) (dCall sp_law_draw (dCons (dVar 0) (dCons (dVar 8) dNil)))) dNil))) t_law_hall_10)
def t_law_hall_12 : DS := (dIfS (dTst (dBin pGt (dVar 4) (dC (.int 0)))) t_law_hall_11 dNext)
def t_law_hall_13 : DS := (dSeq (dFor (iRng2 (dC (.int 1)) (dVar 3)) (kName 8) t_law_hall_12) t_law_hall_8)
def t_law_hall_14 : DS := (dSeq (dAsg (dCall sp_law_mixed (dCons (dVar 0) (dCons (dListRg (rg1 (dVar 3))) dNil))) (kName 7)) t_law_hall_13)
def t_law_hall_15 : DS := (dSeq (dAsg (dComp (iRng1 (dVar 3)) (kName 6) dYes (dLst dNil) [6]) (kName 5)) t_law_hall_14)
def t_law_hall : DS := (dSeq (dPar 3 4 (dCons (dBin pAdd (dC (.int 1)) (dCall sp_law_draw (dCons (dVar 0) (dCons (dVar 1) dNil)))) (dCons (dCall sp_law_draw (dCons (dVar 0) (dCons (dC (.int 4)) dNil))) dNil))) t_law_hall_15)
def sp_law_hall : DSp := fun ds S Q _ => match ds with
  | [.ref h, .int mp, .int mc] => 1 ≤ mp ∧ mp ≤ 12 ∧ 1 ≤ mc ∧ mc ≤ 16 ∧ ∃ c, Hand S h c ∧ ∀ p hall ps S', S p = none → S' p = some (.lst [eH hall, eB ps]) → hallB hall = true → risB ps hall.length = true → (hall.length : Int) ≤ mp → (∀ b ∈ hall, (b.length : Int) ≤ mc) → Hand S' h c → Kp h S S' → Q (.ref p) S'
  | _ => False
@[simp] theorem sp_law_hall_eq {h mp mc S Q E} : sp_law_hall [.ref h, .int mp, .int mc] S Q E = (1 ≤ mp ∧ mp ≤ 12 ∧ 1 ≤ mc ∧ mc ≤ 16 ∧ ∃ c, Hand S h c ∧ ∀ p hall ps S', S p = none → S' p = some (.lst [eH hall, eB ps]) → hallB hall = true → risB ps hall.length = true → (hall.length : Int) ≤ mp → (∀ b ∈ hall, (b.length : Int) ≤ mc) → Hand S' h c → Kp h S S' → Q (.ref p) S') := rfl
/-- the append in the inner loop's turns -/
theorem small_app {m : Nat} {ns : List Int} (h : ns.length ≤ m) (hm : m ≤ 1000) : (ns.map D.int).length < sizeLine := by
  rw [List.length_map]; exact Nat.lt_of_le_of_lt (Nat.le_trans h hm) (by decide)
section
variable {S S1 : SH} {h c B O : Addr} {bs : List Addr} {os : List Int} {N sh mp mc : Int} {m : Nat} {E : EK} {DD : DEnds} {v6 v8 v9 v10 v11 v12 v13 v14 vO : Option D}
theorem hall9 {x y : Int} (j : J h c bs N m S1 S) (nb : ∀ b ∈ bs, b ≠ h ∧ b ≠ c) (hB : S1 B = some (.lst (bs.map D.ref))) (nB : B ≠ h ∧ B ∉ bs) (hN : (bs.length : Int) = N) (hx : inR N x = true) (hy : inR N y = true) (hm : m ≤ 1000)
    (q : ∀ S', J h c bs N (m + 1) S1 S' → DD.nx [some (.ref h), some (.int mp), some (.int mc), some (.int N), some (.int sh), some (.ref B), v6, some (.ref O), v8, some (.int x), some (.int y), v11, v12, v13, v14] S') :
    t_law_hall_9 E DD [some (.ref h), some (.int mp), some (.int mc), some (.int N), some (.int sh), some (.ref B), v6, some (.ref O), v8, some (.int x), some (.int y), v11, v12, v13, v14] S := by
  obtain ⟨b, _, hb, e1⟩ := pIx_ref (j.keep B _ nB.1 nB.2 hB) (by rw [hN]; exact hx)
  obtain ⟨ns, e2, r, z⟩ := j.books b hb
  simp [t_law_hall_9, e1, tyIs_ref e2]
  rw [pAppend_of e2 (small_app z hm), resW_put]
  exact q _ (j.app nb hb e2 hy r z)
theorem hall11 {at_ : Int} (j : J h c bs N m S1 S) (nb : ∀ b ∈ bs, b ≠ h ∧ b ≠ c) (hB : S1 B = some (.lst (bs.map D.ref))) (nB : B ≠ h ∧ B ∉ bs) (hN : (bs.length : Int) = N) (hO : S1 O = some (.lst (os.map D.int))) (nO : O ≠ h ∧ O ∉ bs) (hos : (os.length : Int) = N) (ho : ∀ x ∈ os, inR N x = true)
    (ha : 1 ≤ at_ ∧ at_ < N) (hN12 : N ≤ 12) (hm : m ≤ 1000)
    (q : ∀ S' x y, J h c bs N (m + 1) S1 S' → DD.nx [some (.ref h), some (.int mp), some (.int mc), some (.int N), some (.int sh), some (.ref B), v6, some (.ref O), some (.int at_), some (.int x), some (.int y), v11, v12, v13, v14] S') :
    t_law_hall_11 E DD [some (.ref h), some (.int mp), some (.int mc), some (.int N), some (.int sh), some (.ref B), v6, some (.ref O), some (.int at_), v9, v10, v11, v12, v13, v14] S := by
  obtain ⟨x, hx, e1⟩ := pIx_ints (i := at_) (j.keep O _ nO.1 nO.2 hO) (by rw [hos]; exact inR_iff.mpr ⟨by omega, ha.2⟩)
  simp [t_law_hall_11, e1]
  refine ⟨by omega, by omega, c, j.hand, fun r S' hr H k => ?_⟩
  have j' := j.draw nb H k
  obtain ⟨r0, r1⟩ := inR_iff.mp hr
  obtain ⟨y, hy, e2⟩ := pIx_ints (i := r) (j'.keep O _ nO.1 nO.2 hO) (by rw [hos]; exact inR_iff.mpr ⟨r0, by omega⟩)
  rw [e2, resW_val]
  simp [t_law_hall_10]
  refine ⟨c, j'.hand, fun r2 S'' hr2 H2 k2 => ?_⟩
  have j'' := j'.draw nb H2 k2
  split
  · exact hall9 j'' nb hB nB hN (ho y hy) (ho x hx) hm fun S3 j3 => q S3 y x j3
  · exact hall9 j'' nb hB nB hN (ho x hx) (ho y hy) hm fun S3 j3 => q S3 x y j3
end
end DL

set_option Elab.async false
set_option linter.all false
set_option maxRecDepth 100000
set_option maxHeartbeats 4000000
namespace DL
open PySem PySem.Spec PyProof.Rows L2

/-! ### sorted bags -/
def bagOf (S : SH) (b : Addr) : List Int := match S b with | some (.lst l) => (D.ints l).getD [] | _ => []
theorem bagOf_eq {S : SH} {b : Addr} {ns : List Int} (h : S b = some (.lst (ns.map D.int))) : bagOf S b = ns := by unfold bagOf; rw [h]; simp only [ints_map]; rfl
theorem adj_of {R : Int → Int → Bool} : ∀ {l : List Int}, l.Pairwise (fun a b => R a b = true) → (l.zip l.tail).all (fun q => R q.1 q.2) = true
  | [], _ => rfl
  | [_], _ => rfl
  | x :: y :: l, h => by
    rw [adj_cons (P := R), Bool.and_eq_true]
    exact ⟨(List.pairwise_cons.mp h).1 y (List.mem_cons_self ..), adj_of (List.pairwise_cons.mp h).2⟩
theorem sortI_adj {l : List Int} : ((sortI l).zip (sortI l).tail).all (fun q => decide (q.1 ≤ q.2)) = true :=
  adj_of (R := fun a b => decide (a ≤ b)) ((sortI_sorted l).imp fun h => decide_eq_true h)
theorem sortI_len {l : List Int} : (sortI l).length = l.length := (sortI_perm l).length_eq
theorem sortI_mem {l : List Int} {x : Int} : x ∈ sortI l ↔ x ∈ l := (sortI_perm l).mem_iff
theorem sortI_bag {l : List Int} {n : Int} (h : ∀ x ∈ l, inR n x = true) : bagB (sortI l) n = true := by
  unfold bagB
  rw [Bool.and_eq_true]
  exact ⟨List.all_eq_true.mpr fun x hx => h x (sortI_mem.mp hx), sortI_adj⟩
def rng (n : Nat) : List Int := (List.range n).map fun (i : Nat) => (i : Int)
theorem rgD_rng {n : Int} (h : 0 ≤ n) : rgD 0 n = (rng n.toNat).map D.int := by
  unfold rgD rng
  rw [List.map_map, Int.sub_zero]
  refine List.map_congr_left fun i _ => ?_
  show D.int (0 + (i : Int)) = D.int i
  rw [Int.zero_add]
theorem rng_lt {n : Nat} : (rng n).Pairwise (fun a b => decide (a < b) = true) := by
  unfold rng
  rw [List.pairwise_map]
  exact List.pairwise_lt_range.imp fun h => decide_eq_true (by omega)
theorem rng_mem {n : Nat} {x : Int} (h : x ∈ rng n) : inR n x = true := by
  unfold rng at h
  obtain ⟨i, hi, rfl⟩ := List.mem_map.mp h
  rw [List.mem_range] at hi
  exact inR_iff.mpr ⟨by omega, by omega⟩
theorem ris_of {l : List Int} {n : Int} (h : l.Pairwise (fun a b => decide (a < b) = true)) (r : ∀ x ∈ l, inR n x = true) : risB l n = true := by
  unfold risB bagB
  rw [Bool.and_eq_true, Bool.and_eq_true]
  refine ⟨⟨List.all_eq_true.mpr r, adj_of (R := fun a b => decide (a ≤ b)) (h.imp fun h => decide_eq_true (by have := of_decide_eq_true h; omega))⟩, adj_of (R := fun a b => decide (a < b)) h⟩
theorem ris_sub {l : List Int} {n : Nat} (h : l.Sublist (rng n)) : risB l n = true := ris_of (rng_lt.sublist h) fun x hx => rng_mem (h.subset hx)
theorem sub_map : ∀ {l : List D} {ns : List Int}, l.Sublist (ns.map D.int) → ∃ ms : List Int, l = ms.map D.int ∧ ms.Sublist ns := fun h => by
  obtain ⟨ms, a, b⟩ := List.sublist_map_iff.mp h
  exact ⟨ms, b, a⟩
/-- the books at the end -/
structure FB (h c B : Addr) (N : Int) (S0 S : SH) : Prop where
  ex : ∃ bs : List Addr, S B = some (.lst (bs.map D.ref)) ∧ (bs.length : Int) = N ∧ ∀ b ∈ bs, b ≠ h ∧ b ≠ c ∧ b ≠ B ∧ ∃ ns : List Int, S b = some (.lst (ns.map D.int)) ∧ (∀ x ∈ ns, inR N x = true)
  hB : B ≠ h ∧ B ≠ c
  n0 : S0 B = none
  hand : Hand S h c
  kp : Kp h S0 S
theorem FB.draw {h c B : Addr} {N : Int} {S0 S S' : SH} (F : FB h c B N S0 S) (H : Hand S' h c) (k : Kp h S S') : FB h c B N S0 S' := by
  obtain ⟨bs, e, l, r⟩ := F.ex
  exact ⟨⟨bs, k _ _ F.hB.1 e, l, fun b hb => let ⟨n1, n2, n3, ns, e1, r1⟩ := r b hb; ⟨n1, n2, n3, ns, k _ _ n1 e1, r1⟩⟩, F.hB, F.n0, H, F.kp.trans k⟩
theorem FB.of {h c B : Addr} {N : Int} {S0 S1 S : SH} {bs : List Addr} {m : Nat} (j : J h c bs N m S1 S) (k : Kp h S0 S1) (hB : S1 B = some (.lst (bs.map D.ref))) (nB : B ≠ h ∧ B ≠ c ∧ B ∉ bs) (hN : (bs.length : Int) = N) (nb : ∀ b ∈ bs, b ≠ h ∧ b ≠ c) (n0 : ∀ b ∈ bs, S0 b = none) (nB0 : S0 B = none) : FB h c B N S0 S :=
  ⟨⟨bs, j.keep B _ nB.1 nB.2.2 hB, hN, fun b hb => let ⟨ns, e, r, _⟩ := j.books b hb; ⟨(nb b hb).1, (nb b hb).2, (fun z => nB.2.2 (by rw [← z]; exact hb)), ns, e, r⟩⟩, ⟨nB.1, nB.2.1⟩, nB0, j.hand,
   fun a o n e => j.keep a o n (fun hb => by rw [n0 a hb] at e; cases e) (k a o n e)⟩
abbrev Post (h c : Addr) (mp mc : Int) (S0 : SH) (Q : QE) : Prop := ∀ p hall ps S', S0 p = none → S' p = some (.lst [eH hall, eB ps]) → hallB hall = true → risB ps hall.length = true → (hall.length : Int) ≤ mp → (∀ b ∈ hall, (b.length : Int) ≤ mc) → Hand S' h c → Kp h S0 S' → Q (.ref p) S'
section
variable {S S0 S1 : SH} {h c B O : Addr} {bs : List Addr} {os ps : List Int} {N sh mp mc : Int} {m : Nat} {E : EK} {DD : DEnds} {nx : SDl → SH → Prop} {Q : QE} {v6 v8 v9 v10 v11 v12 v13 v14 vO : Option D}
theorem hall1 (F : FB h c B N S0 S) (N1 : 1 ≤ N) (N2 : N ≤ mp) (p12 : mp ≤ 12) (mc1 : 1 ≤ mc) (mc2 : mc ≤ 16) (hr : risB ps N = true) (q : Post h c mp mc S0 Q) :
    t_law_hall_1 E { nx := nx, rt := Q } [some (.ref h), some (.int mp), some (.int mc), some (.int N), some (.int sh), some (.ref B), v6, vO, v8, v9, v10, v11, v12, some (eB ps), v14] S := by
  obtain ⟨bs, e, l, r⟩ := F.ex
  simp [t_law_hall_1, srcOf_ref e]
  intro p hp
  refine comp_map bs D.ref (fun b => eB (sortI ((bagOf S b).take mc.toNat))) hp (len_small (by omega)) (fun i S' _ le => by simp only [srcLst, le _ _ e]) (fun b S' hb le R hR => ?_) ?_
  · obtain ⟨_, _, _, ns, e1, r1⟩ := r b hb
    have e2 := le _ _ e1
    simp [wipeD]
    rw [show pSlice (.ref b) none (some mc) S' = .new (.lst (cutD (ns.map D.int) none (some mc))) from by simp only [pSlice, e2], cut_to (by omega), ← List.map_take, resW_new]
    intro t ht
    rw [pSorted_ref sup_same, resW_new]
    intro u hu
    rw [pTuple_ref sup_same, resW_val]
    rw [bagOf_eq e1] at hR
    exact hR _ ((SLe.new ht).trans (SLe.new hu))
  · rw [pTuple_ref sup_same, resW_val]
    refine ⟨by decide, fun t ht => ?_⟩
    have ht0 := none_of_sup ht
    have ets : D.tup (bs.map fun b => eB (sortI ((bagOf S b).take mc.toNat))) = eH (bs.map fun b => sortI ((bagOf S b).take mc.toNat)) := by
      unfold eH; rw [List.map_map]; rfl
    rw [ets]
    have lenh : (bs.map fun b => sortI ((bagOf S b).take mc.toNat)).length = bs.length := List.length_map _
    have lb : ∀ b ∈ (bs.map fun b => sortI ((bagOf S b).take mc.toNat)), b.length ≤ mc.toNat := fun x hx => by
      obtain ⟨b, hb, rfl⟩ := List.mem_map.mp hx
      rw [sortI_len, List.length_take]; omega
    refine wk.of (q t _ ps _ (F.kp.none F.hand ht0.1) sup_same ?_ (by rw [lenh, l]; exact hr) (by rw [lenh]; omega) (fun b hb => by have := lb b hb; omega) ((F.hand.new hp).new ht) ((F.kp.trans (Kp.le (SLe.new hp))).trans (Kp.le (SLe.new ht))))
    unfold hallB
    rw [Bool.and_eq_true, Bool.and_eq_true, decide_eq_true_eq, decide_eq_true_eq, lenh]
    refine ⟨⟨by omega, by omega⟩, List.all_eq_true.mpr fun x hx => ?_⟩
    have := lb x hx
    obtain ⟨b, hb, rfl⟩ := List.mem_map.mp hx
    obtain ⟨_, _, _, ns, e1, r1⟩ := r b hb
    unfold bookB
    rw [Bool.and_eq_true, decide_eq_true_eq]
    refine ⟨?_, by omega⟩
    rw [bagOf_eq e1, l]
    exact sortI_bag fun y hy => r1 y (List.mem_of_mem_take hy)
theorem hall2 (F : FB h c B N S0 S) (N1 : 1 ≤ N) (N2 : N ≤ mp) (p12 : mp ≤ 12) (mc1 : 1 ≤ mc) (mc2 : mc ≤ 16) (q : Post h c mp mc S0 Q) :
    t_law_hall_3 E { nx := nx, rt := Q } [some (.ref h), some (.int mp), some (.int mc), some (.int N), some (.int sh), some (.ref B), v6, vO, v8, v9, v10, v11, v12, v13, v14] S := by
  have e0 : (N.toNat : Int) = N := by omega
  simp [t_law_hall_3, rgOk, okR]
  refine ⟨⟨⟨by omega, by omega⟩, by omega⟩, ?_⟩
  rw [rgD_rng (by omega)]
  simp [t_law_hall_2]
  refine ⟨c, F.hand, fun r S' hr H k => ?_⟩
  have F' := F.draw H k
  split
  · intro p hp
    have np := H.ne_new hp
    refine ⟨fun z => np.1 z, _, items_ref sup_same, by rw [List.length_map]; unfold rng; rw [List.length_map, List.length_range]; omega, c, H.new hp, fun l' S'' sb H' k' => ?_⟩
    obtain ⟨ms, rfl, sb2⟩ := sub_map sb
    have F'' := (F'.draw (H.new hp) (Kp.le (SLe.new hp))).draw H' k'
    exact hall1 (ps := ms) F'' N1 N2 p12 mc1 mc2 (by have := ris_sub sb2; rwa [e0] at this) q
  · exact hall1 (ps := rng N.toNat) F' N1 N2 p12 mc1 mc2 (by have := ris_sub (List.Sublist.refl (rng N.toNat)); rwa [e0] at this) q
theorem hall4 (F : FB h c B N S0 S) (N1 : 1 ≤ N) (N2 : N ≤ mp) (p12 : mp ≤ 12) (mc1 : 1 ≤ mc) (mc2 : mc ≤ 16) (q : Post h c mp mc S0 Q) :
    t_law_hall_4 E { nx := nx, rt := Q } [some (.ref h), some (.int mp), some (.int mc), some (.int N), some (.int sh), some (.ref B), v6, vO, v8, v9, v10, v11, v12, v13, v14] S := by
  simp [t_law_hall_4]
  refine ⟨c, F.hand, fun r S' hr H k => ?_⟩
  have F' := F.draw H k
  split
  · intro p hp
    refine ⟨by omega, by omega, c, H.new hp, fun i S'' hi H' k' => ?_⟩
    have np := H.ne_new hp
    have F'' := (F'.draw (H.new hp) (Kp.le (SLe.new hp))).draw H' k'
    obtain ⟨bs, e, l, rr⟩ := F''.ex
    obtain ⟨i0, i1⟩ := inR_iff.mp hi
    rw [pSetIx_of e i0 (by rw [List.length_map]; omega), resW_put]
    refine hall2 ⟨⟨bs.set i.toNat p, by rw [sup_same, List.map_set], by rw [List.length_set]; exact l, fun b hb => ?_⟩, F''.hB, F''.n0, H'.put F''.hB.1 F''.hB.2, F''.kp.new F''.n0⟩ N1 N2 p12 mc1 mc2 q
    · rcases List.mem_or_eq_of_mem_set hb with hb | hb
      · obtain ⟨n1, n2, n3, ns, e1, r1⟩ := rr b hb
        exact ⟨n1, n2, n3, ns, by rw [sup_ne n3]; exact e1, r1⟩
      · subst hb
        have hpB : b ≠ B := fun z => by
          obtain ⟨_, eB, _⟩ := F'.ex
          rw [← z, hp] at eB; cases eB
        exact ⟨np.1, np.2, hpB, [], by rw [sup_ne hpB]; exact k' _ _ np.1 sup_same, fun x hx => by cases hx⟩
  · exact hall2 F' N1 N2 p12 mc1 mc2 q
end
end DL

set_option Elab.async false
set_option linter.all false
set_option maxRecDepth 100000
set_option maxHeartbeats 4000000
namespace DL
open PySem PySem.Spec PyProof.Rows L2
/-- the ground under the books' loops -/
structure Gr (h c B O : Addr) (bs : List Addr) (os : List Int) (N : Int) (S0 S1 : SH) : Prop where
  nb : ∀ b ∈ bs, b ≠ h ∧ b ≠ c
  hB : S1 B = some (.lst (bs.map D.ref))
  nB : B ≠ h ∧ B ≠ c ∧ B ∉ bs
  hN : (bs.length : Int) = N
  hO : S1 O = some (.lst (os.map D.int))
  nO : O ≠ h ∧ O ∉ bs
  hos : (os.length : Int) = N
  ho : ∀ x ∈ os, inR N x = true
  n0 : ∀ b ∈ bs, S0 b = none
  nB0 : S0 B = none
  k : Kp h S0 S1
section
variable {S S0 S1 : SH} {h c B O : Addr} {bs : List Addr} {os ps : List Int} {N sh mp mc few : Int} {m : Nat} {E : EK} {DD : DEnds} {nx : SDl → SH → Prop} {Q : QE} {v6 v8 v9 v10 v11 v12 v13 v14 vO : Option D}
theorem hall5 {u : Int} (G : Gr h c B O bs os N S0 S1) (j : J h c bs N m S1 S) (hu : inR N u = true) (N12 : N ≤ 12) (hm : m ≤ 900) (f0 : 1 ≤ few) (f1 : few ≤ 17)
    (q : ∀ S' v12, J h c bs N (m + 20) S1 S' → DD.nx [some (.ref h), some (.int mp), some (.int mc), some (.int N), some (.int sh), some (.ref B), some (.int u), some (.ref O), v8, v9, v10, some (.int few), v12, v13, v14] S') :
    t_law_hall_5 E DD [some (.ref h), some (.int mp), some (.int mc), some (.int N), some (.int sh), some (.ref B), some (.int u), some (.ref O), v8, v9, v10, some (.int few), v12, v13, v14] S := by
  simp [t_law_hall_5]
  refine ⟨by omega, by omega, c, j.hand, fun r S' hr H k => ?_⟩
  obtain ⟨r0, r1⟩ := inR_iff.mp hr
  refine ⟨⟨by omega, by omega⟩, ?_⟩
  have j' := j.draw G.nb H k
  refine for_inv ((List.range r.toNat).map fun (i : Nat) => D.int i) (fun i τ S' => (∃ v12, τ = [some (.ref h), some (.int mp), some (.int mc), some (.int N), some (.int sh), some (.ref B), some (.int u), some (.ref O), v8, v9, v10, some (.int few), v12, v13, v14]) ∧ J h c bs N (m + i) S1 S')
    ⟨⟨_, rfl⟩, j'⟩ (fun i τ S' hi _ => ?_) ?_ ?_
  · rw [List.getElem?_map]
    unfold srcRng
    by_cases z : i < r.toNat
    · rw [if_pos z, List.getElem?_range z]; simp
    · rw [if_neg z, List.getElem?_eq_none (by rw [List.length_range]; omega)]; rfl
  · rintro i d τ S2 hd ⟨⟨v12, rfl⟩, j2⟩ P hP
    obtain ⟨w, hw, rfl, hwm⟩ := get_map hd
    have il : i < r.toNat := by
      by_cases z : i < r.toNat
      · exact z
      · rw [List.getElem?_eq_none (by rw [List.length_range]; omega)] at hw; cases hw
    obtain ⟨b, _, hb, e1⟩ := pIx_ref (j2.keep B _ G.nB.1 G.nB.2.2 G.hB) (by rw [G.hN]; exact hu)
    obtain ⟨ns, e2, rr, z⟩ := j2.books b hb
    simp [e1, tyIs_ref e2]
    obtain ⟨u0, u1⟩ := inR_iff.mp hu
    refine ⟨by omega, by omega, c, j2.hand, fun x S3 hx H3 k3 => ?_⟩
    have e3 := k3 _ _ (G.nb b hb).1 e2
    rw [pAppend_of e3 (small_app z (by omega)), resW_put]
    exact wk.of (hP _ _ ⟨⟨_, rfl⟩, (j2.draw G.nb H3 k3).app G.nb hb e3 hx rr z⟩)
  · rintro τ S2 ⟨⟨v12, rfl⟩, j2⟩
    refine q S2 v12 (j2.up ?_)
    rw [List.length_map, List.length_range]; omega
theorem hall7 (G : Gr h c B O bs os N S0 S1) (j : J h c bs N m S1 S) (N1 : 1 ≤ N) (N2 : N ≤ mp) (p12 : mp ≤ 12) (mc1 : 1 ≤ mc) (mc2 : mc ≤ 16) (hm : m ≤ 100) (f0 : 1 ≤ few) (f1 : few ≤ 17) (q : Post h c mp mc S0 Q) :
    t_law_hall_7 E { nx := nx, rt := Q } [some (.ref h), some (.int mp), some (.int mc), some (.int N), some (.int sh), some (.ref B), v6, some (.ref O), v8, v9, v10, some (.int few), v12, v13, v14] S := by
  simp [t_law_hall_7]
  refine ⟨⟨by omega, by omega⟩, ?_⟩
  refine for_inv ((List.range N.toNat).map fun (i : Nat) => D.int i) (fun i τ S' => (∃ v6 v12, τ = [some (.ref h), some (.int mp), some (.int mc), some (.int N), some (.int sh), some (.ref B), v6, some (.ref O), v8, v9, v10, some (.int few), v12, v13, v14]) ∧ J h c bs N (m + i * 20) S1 S')
    ⟨⟨_, _, rfl⟩, by simpa using j⟩ (fun i τ S' hi _ => ?_) ?_ ?_
  · rw [List.getElem?_map]
    unfold srcRng
    by_cases z : i < N.toNat
    · rw [if_pos z, List.getElem?_range z]; simp
    · rw [if_neg z, List.getElem?_eq_none (by rw [List.length_range]; omega)]; rfl
  · rintro i d τ S2 hd ⟨⟨v6, v12, rfl⟩, j2⟩ P hP
    obtain ⟨w, hw, rfl, hwm⟩ := get_map hd
    have il : i < N.toNat := by
      by_cases z : i < N.toNat
      · exact z
      · rw [List.getElem?_eq_none (by rw [List.length_range]; omega)] at hw; cases hw
    have wl : w < N.toNat := List.mem_range.mp hwm
    have hu : inR N (w : Int) = true := inR_iff.mpr ⟨by omega, by omega⟩
    have fin : ∀ S' v12, J h c bs N (m + i * 20 + 20) S1 S' → wk (P [some (.ref h), some (.int mp), some (.int mc), some (.int N), some (.int sh), some (.ref B), some (.int w), some (.ref O), v8, v9, v10, some (.int few), v12, v13, v14]) S' := fun S' v12 j3 =>
      wk.of (hP _ _ ⟨⟨_, _, rfl⟩, j3.up (by omega)⟩)
    have go : ∀ S', J h c bs N (m + i * 20) S1 S' → _ := fun S' j3 => hall5 (E := E) (DD := ⟨fun τ' S' => wk (P τ') S', Q, fun τ S => t_law_hall_4 E { nx := nx, rt := Q } τ S, fun τ' S' => wk (P τ') S'⟩) (mp := mp) (mc := mc) (sh := sh) (v8 := v8) (v9 := v9) (v10 := v10) (v12 := v12) (v13 := v13) (v14 := v14) G j3 hu (by omega) (by omega) f0 f1 fin
    simp [t_law_hall_6]
    split
    · exact go _ j2
    · refine ⟨c, j2.hand, fun r S3 hr H3 k3 => ?_⟩
      have j3 := j2.draw G.nb H3 k3
      split
      · exact go _ j3
      · exact fin _ _ (j3.up (by omega))
  · rintro τ S2 ⟨⟨v6, v12, rfl⟩, j2⟩
    exact hall4 (FB.of j2 G.k G.hB G.nB G.hN G.nb G.n0 G.nB0) N1 N2 p12 mc1 mc2 q
theorem hall13 (G : Gr h c B O bs os N S0 S1) (j : J h c bs N 0 S1 S) (N1 : 1 ≤ N) (N2 : N ≤ mp) (p12 : mp ≤ 12) (mc1 : 1 ≤ mc) (mc2 : mc ≤ 16) (q : Post h c mp mc S0 Q) :
    t_law_hall_13 E { nx := nx, rt := Q } [some (.ref h), some (.int mp), some (.int mc), some (.int N), some (.int sh), some (.ref B), v6, some (.ref O), v8, v9, v10, v11, v12, v13, v14] S := by
  simp [t_law_hall_13]
  refine ⟨⟨⟨by decide, by decide⟩, by omega, by omega⟩, ?_⟩
  refine for_inv ((List.range (N - 1).toNat).map fun (i : Nat) => D.int (1 + (i : Int))) (fun i τ S' => (∃ v8 v9 v10, τ = [some (.ref h), some (.int mp), some (.int mc), some (.int N), some (.int sh), some (.ref B), v6, some (.ref O), v8, v9, v10, v11, v12, v13, v14]) ∧ J h c bs N i S1 S')
    ⟨⟨_, _, _, rfl⟩, j⟩ (fun i τ S' hi _ => ?_) ?_ ?_
  · rw [List.getElem?_map]
    unfold srcRng
    by_cases z : i < N.toNat - 1
    · rw [if_pos z, List.getElem?_range (by omega)]; rfl
    · rw [if_neg z, List.getElem?_eq_none (by rw [List.length_range]; omega)]; rfl
  · rintro i d τ S2 hd ⟨⟨v8, v9, v10, rfl⟩, j2⟩ P hP
    obtain ⟨w, hw, rfl, hwm⟩ := get_map hd
    have il : i < (N - 1).toNat := by
      by_cases z : i < (N - 1).toNat
      · exact z
      · rw [List.getElem?_eq_none (by rw [List.length_range]; omega)] at hw; cases hw
    have wl : w < (N - 1).toNat := List.mem_range.mp hwm
    simp [t_law_hall_12]
    split
    · exact hall11 j2 G.nb G.hB ⟨G.nB.1, G.nB.2.2⟩ G.hN G.hO G.nO G.hos G.ho ⟨by omega, by omega⟩ (by omega) (by omega) fun S' x y j3 => wk.of (hP _ _ ⟨⟨_, _, _, rfl⟩, j3⟩)
    · exact wk.of (hP _ _ ⟨⟨_, _, _, rfl⟩, j2.up (by omega)⟩)
  · rintro τ S2 ⟨⟨v8, v9, v10, rfl⟩, j2⟩
    rw [List.length_map, List.length_range] at j2
    simp [t_law_hall_8]
    refine ⟨by omega, by omega, c, j2.hand, fun r S3 hr H3 k3 => ?_⟩
    obtain ⟨r0, r1⟩ := inR_iff.mp hr
    exact hall7 G (j2.draw G.nb H3 k3) N1 N2 p12 mc1 mc2 (by omega) (by omega) (by omega) q
end
theorem w_law_hall : bodyW ["hand", "most_persons", "most_cards", "persons", "shape", "books", "person", "order", "at", "one", "other", "few", "turn", "players", "bag"] t_law_hall sp_law_hall := by
  intro ds S Q E h
  unfold sp_law_hall at h
  split at h
  · rename_i a mp mc
    obtain ⟨p1, p12, mc1, mc2, c, H, q⟩ := h
    show t_law_hall _ _ [some (.ref a), some (.int mp), some (.int mc), none, none, none, none, none, none, none, none, none, none, none, none] S
    simp [t_law_hall]
    refine ⟨by omega, by omega, c, H, fun r S1 hr H1 k1 => ⟨c, H1, fun sh S2 hsh H2 k2 => ?_⟩⟩
    obtain ⟨r0, r1⟩ := inR_iff.mp hr
    simp [t_law_hall_15]
    refine ⟨⟨by omega, by omega⟩, fun B hB => ?_⟩
    have k02 := k1.trans k2
    have nBh := H2.ne_new hB
    refine comp_inv ((List.range (1 + r).toNat).map fun (i : Nat) => D.int i) (fun i S' => ∃ bs : List Addr, S' B = some (.lst (bs.map D.ref)) ∧ bs.length = i ∧ SLe S2 S' ∧ ∀ b ∈ bs, S2 b = none ∧ b ≠ B ∧ S' b = some (.lst [])) ⟨[], sup_same, rfl, SLe.new hB, fun b hb => by cases hb⟩ (fun i S' hi _ => ?_) ?_ ?_
    · rw [List.getElem?_map]
      unfold srcRng
      by_cases z : i < (1 + r).toNat
      · rw [if_pos z, List.getElem?_range z]; simp
      · rw [if_neg z, List.getElem?_eq_none (by rw [List.length_range]; omega)]; rfl
    · rintro i d S3 hd ⟨bs, e1, e2, e3, e4⟩ P hP
      have il : i < (1 + r).toNat := by
        obtain ⟨w, hw, rfl, hwm⟩ := get_map hd
        by_cases z : i < (1 + r).toNat
        · exact z
        · rw [List.getElem?_eq_none (by rw [List.length_range]; omega)] at hw; cases hw
      simp
      intro t ht
      have e5 : sup S3 t (.lst []) B = some (.lst (bs.map D.ref)) := sup_old e1 ht
      rw [e5]
      refine ⟨by rw [List.length_map, e2]; exact Nat.lt_of_lt_of_le (show i < 1000 by omega) (by decide), wk.of (hP _ ⟨bs ++ [t], by rw [sup_same, List.map_append]; rfl, by rw [List.length_append, e2]; rfl, ?_, fun b hb => ?_⟩)⟩
      · exact (e3.trans (SLe.new ht)).put_new hB
      · have tB : t ≠ B := fun z => by rw [z, e1] at ht; cases ht
        rcases List.mem_append.mp hb with hb | hb
        · obtain ⟨x1, x2, x3⟩ := e4 b hb
          exact ⟨x1, x2, by rw [sup_ne x2]; exact sup_old x3 ht⟩
        · rw [List.mem_singleton.mp hb]
          exact ⟨e3.none ht, tB, by rw [sup_ne tB]; exact sup_same⟩
    · rintro S3 ⟨bs, e1, e2, e3, e4⟩
      rw [List.length_map, List.length_range] at e2
      have H3 := H2.mono e3
      simp [t_law_hall_14, rgOk, okR]
      refine ⟨⟨⟨by omega, by omega⟩, by omega⟩, fun q1 hq1 => ⟨rgD 0 (1 + r), items_ref sup_same, ?_, c, H3.new hq1, fun O l' S4 hO pm eO H4 k4 => ?_⟩⟩
      · rw [rgD_rng (by omega), List.length_map]; unfold rng; rw [List.length_map, List.length_range]; omega
      · rw [rgD_rng (by omega)] at pm
        obtain ⟨os, rfl⟩ : ∃ os : List Int, l' = os.map D.int := by
          have : ∀ d ∈ l', ∃ i : Int, d = .int i := fun d hd => by
            obtain ⟨i, _, rfl⟩ := List.mem_map.mp (pm.mem_iff.mp hd)
            exact ⟨i, rfl⟩
          clear pm eO
          induction l' with
          | nil => exact ⟨[], rfl⟩
          | cons d l' ih =>
            obtain ⟨i, rfl⟩ := this d (List.mem_cons_self ..)
            obtain ⟨os, rfl⟩ := ih fun d hd => this d (List.mem_cons_of_mem _ hd)
            exact ⟨i :: os, rfl⟩
        have hO3 : S3 O = none := (none_of_sup hO).1
        have k34 : Kp a S3 S4 := (Kp.le (SLe.new hq1)).trans k4
        have nbh : ∀ b ∈ bs, b ≠ a ∧ b ≠ c := fun b hb => H2.ne_new (e4 b hb).1
        have nO : O ≠ a := (H3.ne_new hO3).1
        have e0 : ((1 + r).toNat : Int) = 1 + r := by omega
        have G : Gr a c B O bs os (1 + r) S S4 := {
          nb := nbh
          hB := k34 _ _ nBh.1 e1
          nB := ⟨nBh.1, nBh.2, fun z => (e4 B z).2.1 rfl⟩
          hN := by rw [e2]; exact e0
          hO := eO
          nO := ⟨nO, fun z => by rw [(e4 O z).2.2] at hO3; cases hO3⟩
          hos := by
            have := pm.length_eq
            rw [List.length_map, List.length_map] at this
            rw [this]; unfold rng; rw [List.length_map, List.length_range]; exact e0
          ho := fun x hx => by
            have : D.int x ∈ (rng (1 + r).toNat).map D.int := pm.mem_iff.mp (List.mem_map_of_mem hx)
            obtain ⟨y, hy, e⟩ := List.mem_map.mp this
            cases e
            have := rng_mem hy
            rwa [e0] at this
          n0 := fun b hb => k02.none H2 (e4 b hb).1
          nB0 := k02.none H2 hB
          k := (k02.trans (Kp.le e3)).trans k34 }
        exact hall13 G ⟨H4, fun a o _ _ e => e, fun b hb => ⟨[], k34 _ _ (nbh b hb).1 (e4 b hb).2.2, (fun x hx => by cases hx), Nat.le_refl 0⟩⟩ (by omega) (by omega) p12 mc1 mc2 q
  · exact h.elim
end DL

set_option Elab.async false
set_option linter.all false
set_option maxRecDepth 100000
set_option maxHeartbeats 4000000
namespace DL
open PySem PySem.Spec PyProof.Rows L2

/-! ### turns: plain facts -/
theorem mem_turnsF {h : List (List Int)} {ps us : List Int} {u v g : Int} : (u, v, g) ∈ turnsF h ps us ↔ u ∈ us ∧ v ∈ ps ∧ u ≠ v ∧ v ∈ getB h u ∧ g ∈ getB h v := by
  unfold turnsF turnsU
  simp only [List.mem_flatMap]
  constructor
  · rintro ⟨u', hu, v', hv, hm⟩
    unfold goings at hm
    split at hm
    · rename_i c
      obtain ⟨g', hg, e⟩ := List.mem_map.mp hm
      cases e
      exact ⟨hu, hv, c.1, c.2, mem_sortS.mp hg⟩
    · cases hm
  · rintro ⟨hu, hv, c1, c2, hg⟩
    refine ⟨u, hu, v, hv, ?_⟩
    unfold goings
    rw [if_pos ⟨c1, c2⟩]
    exact List.mem_map.mpr ⟨g, mem_sortS.mpr hg, rfl⟩
theorem pair_of_adj : ∀ {l : List Int}, (l.zip l.tail).all (fun q => decide (q.1 ≤ q.2)) = true → l.Pairwise (· ≤ ·)
  | [], _ => List.Pairwise.nil
  | [x], _ => List.pairwise_singleton _ _
  | x :: y :: l, h => by
    rw [adj_cons (P := fun a b => decide (a ≤ b)), Bool.and_eq_true, decide_eq_true_eq] at h
    have ih := pair_of_adj (l := y :: l) h.2
    refine List.pairwise_cons.mpr ⟨fun z hz => ?_, ih⟩
    rcases List.mem_cons.mp hz with e | hz
    · rw [e]; exact h.1
    · exact Int.le_trans h.1 ((List.pairwise_cons.mp ih).1 z hz)
theorem bag_sorted {b : List Int} {n : Int} (h : bagB b n = true) : b.Pairwise (· ≤ ·) := by
  unfold bagB at h
  rw [Bool.and_eq_true] at h
  exact pair_of_adj h.2
theorem bag_in {b : List Int} {n : Int} (h : bagB b n = true) : ∀ x ∈ b, inR n x = true := by
  unfold bagB at h
  rw [Bool.and_eq_true] at h
  exact List.all_eq_true.mp h.1
theorem sortI_id {b : List Int} (h : b.Pairwise (· ≤ ·)) : sortI b = b := sorted_unique (sortI_perm b) (sortI_sorted b) h
theorem xch_perm {b : List Int} {v g : Int} (hv : v ∈ b) : (xch b v g ++ [v]).Perm (b ++ [g]) := by
  unfold xch
  have h1 : (sortI (b.erase v ++ [g]) ++ [v]).Perm (b.erase v ++ [g] ++ [v]) := (sortI_perm _).append_right _
  have h2 : (b.erase v ++ [g] ++ [v]).Perm (v :: b.erase v ++ [g]) := by
    refine List.perm_append_comm.trans ?_
    exact List.Perm.refl _
  exact h1.trans (h2.trans ((List.perm_cons_erase hv).symm.append_right _))
theorem xch_len {b : List Int} {v g : Int} (hv : v ∈ b) : (xch b v g).length = b.length := by
  have := (xch_perm (g := g) hv).length_eq
  simp at this
  exact this
theorem xch_mem {b : List Int} {v g x : Int} (h : x ∈ xch b v g) : x ∈ b ∨ x = g := by
  unfold xch at h
  have := sortI_mem.mp h
  rcases List.mem_append.mp this with h | h
  · exact .inl (List.mem_of_mem_erase h)
  · exact .inr (List.mem_singleton.mp h)
theorem xch_new {b : List Int} {v g : Int} : g ∈ xch b v g := by
  unfold xch
  exact sortI_mem.mpr (List.mem_append.mpr (.inr (List.mem_singleton.mpr rfl)))
theorem xch_back {b : List Int} {v g : Int} (hs : b.Pairwise (· ≤ ·)) (hv : v ∈ b) : xch (xch b v g) g v = b := by
  refine sorted_unique ?_ (sortI_sorted _) hs
  have h1 := xch_perm (b := xch b v g) (v := g) (g := v) xch_new
  have h2 := h1.trans (xch_perm (g := g) hv)
  exact (List.perm_append_right_iff _).mp h2
theorem xch_bag {b : List Int} {n v g : Int} (h : bagB b n = true) (hg : inR n g = true) : bagB (xch b v g) n = true := by
  refine sortI_bag fun x hx => ?_
  rcases List.mem_append.mp hx with hx | hx
  · exact bag_in h x (List.mem_of_mem_erase hx)
  · rw [List.mem_singleton.mp hx]; exact hg
theorem book_bag {n : Int} {b : List Int} (h : bookB n b = true) : bagB b n = true := by
  unfold bookB at h
  rw [Bool.and_eq_true] at h
  exact h.1
theorem hall_bag {h : List (List Int)} (c : hallB h = true) {u : Int} (hu : inR h.length u = true) : bookB h.length (getB h u) = true := (hall_small c).2.2 _ (getB_mem hu)
theorem bhd_len {h : List (List Int)} {u v g : Int} : (bhd h u v g).length = h.length := by unfold bhd; rw [List.length_set, List.length_set]
theorem toNat_ne {n u v : Int} (hu : inR n u = true) (hv : inR n v = true) (ne : u ≠ v) : u.toNat ≠ v.toNat := by
  have := inR_iff.mp hu
  have := inR_iff.mp hv
  omega
theorem getB_bhd_v {h : List (List Int)} {u v g : Int} (hv : inR h.length v = true) : getB (bhd h u v g) v = xch (getB h v) g u := by
  have := inR_iff.mp hv
  unfold getB bhd
  rw [List.getElem?_set_self (by rw [List.length_set]; omega)]; rfl
theorem getB_bhd_u {h : List (List Int)} {u v g : Int} (hu : inR h.length u = true) (hv : inR h.length v = true) (ne : u ≠ v) : getB (bhd h u v g) u = xch (getB h u) v g := by
  have := inR_iff.mp hu
  unfold bhd
  rw [show getB ((h.set u.toNat (xch (getB h u) v g)).set v.toNat (xch (getB h v) g u)) u = getB (h.set u.toNat (xch (getB h u) v g)) u from by
    unfold getB; rw [List.getElem?_set_ne (Ne.symm (toNat_ne hu hv ne))]]
  show ((h.set u.toNat (xch (getB h u) v g))[u.toNat]?).getD [] = _
  rw [List.getElem?_set_self (by omega)]; rfl
structure Goes (h : List (List Int)) (ps : List Int) (u v g : Int) : Prop where
  hu : inR h.length u = true
  hv : inR h.length v = true
  hg : inR h.length g = true
  ne : u ≠ v
  up : u ∈ ps
  vp : v ∈ ps
  vu : v ∈ getB h u
  gv : g ∈ getB h v
theorem goes_iff {h : List (List Int)} {ps : List Int} {u v g : Int} : goesB h ps (eT (u, v, g)) = true ↔ Goes h ps u v g := by
  constructor
  · intro e
    obtain ⟨a, b, c, d⟩ := goes_eT e
    unfold goes3 at d
    simp only [Bool.and_eq_true, decide_eq_true_eq] at d
    exact ⟨a, b, c, d.1.1.1.1, d.1.1.1.2, d.1.1.2, d.1.2, d.2⟩
  · rintro ⟨a, b, c, d1, d2, d3, d4, d5⟩
    show (inR h.length u && inR h.length v && inR h.length g && goes3 h ps u v g) = true
    unfold goes3
    simp [a, b, c, d1, d2, d3, d4, d5]
theorem ris_in {ps : List Int} {n : Int} (h : risB ps n = true) : ∀ x ∈ ps, inR n x = true := by
  unfold risB at h
  rw [Bool.and_eq_true] at h
  exact bag_in h.1
theorem goes_mem {h : List (List Int)} {ps : List Int} (c : hallB h = true) (r : risB ps h.length = true) {u v g : Int} : Goes h ps u v g ↔ (u, v, g) ∈ turnsF h ps ps := by
  rw [mem_turnsF]
  constructor
  · rintro ⟨a, b, c, d1, d2, d3, d4, d5⟩
    exact ⟨d2, d3, d1, d4, d5⟩
  · rintro ⟨d2, d3, d1, d4, d5⟩
    have hv := ris_in r v d3
    exact ⟨ris_in r u d2, hv, bag_in (book_bag (hall_bag c hv)) g d5, d1, d2, d3, d4, d5⟩
theorem goesB_mem {h : List (List Int)} {ps : List Int} (c : hallB h = true) (r : risB ps h.length = true) {u v g : Int} : goesB h ps (eT (u, v, g)) = decide ((u, v, g) ∈ turnsF h ps ps) := by
  rw [Bool.eq_iff_iff, decide_eq_true_eq, goes_iff, goes_mem c r]
theorem hall_bhd {h : List (List Int)} {ps : List Int} (c : hallB h = true) {u v g : Int} (G : Goes h ps u v g) : hallB (bhd h u v g) = true := by
  obtain ⟨s1, s2, s3⟩ := hall_small c
  unfold hallB
  rw [bhd_len, Bool.and_eq_true, Bool.and_eq_true, decide_eq_true_eq, decide_eq_true_eq]
  refine ⟨⟨s1, s2⟩, List.all_eq_true.mpr fun b hb => ?_⟩
  have bu := hall_bag c G.hu
  have bv := hall_bag c G.hv
  have x1 : bookB h.length (xch (getB h u) v g) = true := by
    unfold bookB
    rw [Bool.and_eq_true, decide_eq_true_eq, xch_len G.vu]
    exact ⟨xch_bag (book_bag bu) G.hg, bag_small bu⟩
  have x2 : bookB h.length (xch (getB h v) g u) = true := by
    unfold bookB
    rw [Bool.and_eq_true, decide_eq_true_eq, xch_len G.gv]
    exact ⟨xch_bag (book_bag bv) G.hu, bag_small bv⟩
  rcases List.mem_or_eq_of_mem_set hb with hb | hb
  · rcases List.mem_or_eq_of_mem_set hb with hb | hb
    · exact s3 b hb
    · rw [hb]; exact x1
  · rw [hb]; exact x2
theorem goes_bhd {h : List (List Int)} {ps : List Int} {u v g : Int} (G : Goes h ps u v g) : Goes (bhd h u v g) ps v u g where
  hu := by rw [bhd_len]; exact G.hv
  hv := by rw [bhd_len]; exact G.hu
  hg := by rw [bhd_len]; exact G.hg
  ne := Ne.symm G.ne
  up := G.vp
  vp := G.up
  vu := by rw [getB_bhd_v G.hv]; exact xch_new
  gv := by rw [getB_bhd_u G.hu G.hv G.ne]; exact xch_new
theorem bhd_bhd {h : List (List Int)} {ps : List Int} (c : hallB h = true) {u v g : Int} (G : Goes h ps u v g) : bhd (bhd h u v g) v u g = h := by
  have e1 : xch (getB (bhd h u v g) v) u g = getB h v := by
    rw [getB_bhd_v G.hv]
    exact xch_back (bag_sorted (book_bag (hall_bag c G.hv))) G.gv
  have e2 : xch (getB (bhd h u v g) u) g v = getB h u := by
    rw [getB_bhd_u G.hu G.hv G.ne]
    exact xch_back (bag_sorted (book_bag (hall_bag c G.hu))) G.vu
  show ((bhd h u v g).set v.toNat (xch (getB (bhd h u v g) v) u g)).set u.toNat (xch (getB (bhd h u v g) u) g v) = h
  rw [e1, e2]
  have := inR_iff.mp G.hu
  have := inR_iff.mp G.hv
  have ne := toNat_ne G.hu G.hv G.ne
  refine List.ext_getElem? fun i => ?_
  unfold bhd
  by_cases z : u.toNat = i
  · subst z
    rw [List.getElem?_set_self (by simp only [List.length_set]; omega)]
    unfold getB
    rw [List.getElem?_eq_getElem (show u.toNat < h.length by omega)]; rfl
  · rw [List.getElem?_set_ne z]
    by_cases z2 : v.toNat = i
    · subst z2
      rw [List.getElem?_set_self (by simp only [List.length_set]; omega)]
      unfold getB
      rw [List.getElem?_eq_getElem (show v.toNat < h.length by omega)]; rfl
    · rw [List.getElem?_set_ne z2, List.getElem?_set_ne z2, List.getElem?_set_ne z]
theorem pure_ints {ns : List Int} (h : ns.length ≤ sizeLine) : pureD 2 (eB ns) := .inl ⟨_, rfl, by rw [List.length_map]; exact h, fun x hx => by
  obtain ⟨n, _, rfl⟩ := List.mem_map.mp hx
  exact .inr trivial⟩
theorem pure_eT (q : Int × Int × Int) : pureD 2 (eT q) := .inl ⟨_, rfl, by show 3 ≤ sizeLine; decide, fun x hx => by
  simp at hx
  rcases hx with rfl | rfl | rfl <;> exact .inr trivial⟩
theorem pure_eH {h : List (List Int)} (c : hallB h = true) : pureD 3 (eH h) := by
  obtain ⟨s1, s2, s3⟩ := hall_small c
  refine .inl ⟨_, rfl, by rw [List.length_map]; exact len_small (by omega), fun x hx => ?_⟩
  obtain ⟨b, hb, rfl⟩ := List.mem_map.mp hx
  exact pure_ints (len_small (by have := bag_small (s3 b hb); omega))
theorem okd_hall {S : SH} {h : List (List Int)} (c : hallB h = true) : okd S (eH h) := by
  obtain ⟨s1, s2, s3⟩ := hall_small c
  exact okd_eH (len_small (by omega)) fun b hb => len_small (by have := bag_small (s3 b hb); omega)
theorem okd_ris {S : SH} {ps : List Int} {n : Nat} (r : risB ps n = true) (hn : n ≤ 1000) : okd S (eB ps) := okd_eB (by
  have a : (ps.zip ps.tail).all (fun q => decide (q.1 < q.2)) = true := by
    unfold risB at r
    rw [Bool.and_eq_true] at r
    exact r.2
  exact len_small (Nat.le_trans (ris_len a (ris_in r)) hn))
theorem okd_eT {S : SH} {q : Int × Int × Int} : okd S (eT q) := ⟨by show 3 ≤ sizeLine; decide, trivial, trivial, trivial, trivial⟩
end DL

set_option Elab.async false
set_option linter.all false
set_option maxRecDepth 100000
set_option maxHeartbeats 4000000
namespace DL
open PySem PySem.Spec PyProof.Rows L2

def pyT (q : Int × Int × Int) : PyData := .tuple [.int q.1, .int q.2.1, .int q.2.2]
theorem pysF_eT {f : Addr → Option PyData} : ∀ {l : List (Int × Int × Int)}, D.pysF f (l.map eT) = some (l.map pyT)
  | [] => rfl
  | q :: l => by
    rw [List.map_cons, List.map_cons]
    show (match D.pyF f (eT q), D.pysF f (l.map eT) with | some x, some xs => some (x :: xs) | _, _ => none) = _
    rw [pysF_eT (l := l)]
    rfl
theorem lay_pyT : ∀ {l : List (Int × Int × Int)}, PyData.canLayAll0 (l.map pyT) = true ∧ PyData.depthAll (l.map pyT) ≤ 10
  | [] => ⟨rfl, Nat.zero_le _⟩
  | q :: l => by
    obtain ⟨a, b⟩ := lay_pyT (l := l)
    refine ⟨?_, ?_⟩
    · show ((pyT q).canLay0 && PyData.canLayAll0 (l.map pyT)) = true
      rw [a]; rfl
    · show max (pyT q).depth (PyData.depthAll (l.map pyT)) ≤ 10
      have : (pyT q).depth ≤ 10 := by simp [pyT, PyData.depth, PyData.depthAll]
      omega
theorem eqv_pyT {q r : Int × Int × Int} : PyData.eqv (pyT q) (pyT r) = decide (q = r) := by
  obtain ⟨a, b, c⟩ := q
  obtain ⟨d, e, f⟩ := r
  show ((a == d) && ((b == e) && ((c == f) && true))) = _
  rw [Bool.eq_iff_iff]
  simp
theorem any_pyT {q : Int × Int × Int} : ∀ {l : List (Int × Int × Int)}, ((l.map pyT).any fun z => PyData.eqv z (pyT q)) = decide (q ∈ l)
  | [] => rfl
  | r :: l => by
    rw [List.map_cons, List.any_cons, any_pyT (l := l), eqv_pyT, Bool.eq_iff_iff, Bool.or_eq_true, decide_eq_true_eq, decide_eq_true_eq, decide_eq_true_eq, List.mem_cons]
    exact ⟨fun h => h.imp Eq.symm id, fun h => h.imp Eq.symm id⟩
theorem pIn_eT {S : SH} {p : Addr} {l : List (Int × Int × Int)} {q : Int × Int × Int} (h : S p = some (.lst (l.map eT))) : pIn false (eT q) (.ref p) S = .val (.bl (decide (q ∈ l))) := by
  have e1 : pInF false (eT q) (.ref p) S = .bad := by
    simp only [pInF, items_ref h]
    rw [show (eT q).flat = false from rfl]; rfl
  have e2 : pInD false (eT q) (.ref p) S = .val (.bl (decide (q ∈ l))) := by
    simp only [pInD, lstOf_ref h]
    rw [show (eT q).pyA S = some (pyT q) from rfl, pysF_eT]
    obtain ⟨a, b⟩ := lay_pyT (l := l)
    have s1 : SeqAt.shaped (pyT q) = true := by
      unfold SeqAt.shaped
      rw [Bool.and_eq_true, decide_eq_true_eq]
      exact ⟨rfl, by simp [pyT, PyData.depth, PyData.depthAll]⟩
    have s2 : SeqAt.shaped (.list (l.map pyT)) = true := by
      unfold SeqAt.shaped
      rw [Bool.and_eq_true, decide_eq_true_eq]
      exact ⟨a, by show PyData.depthAll (l.map pyT) + 1 ≤ 64; omega⟩
    simp only [s1, s2, Bool.and_self, if_true, any_pyT]
    rfl
  unfold pIn orR
  rw [e1, e2]
/-! ### the law's own turns -/
def sp_law_turns : DSp := fun ds S Q _ => match ds with
  | [hd, pd] => (∃ h ps, deH hd = some h ∧ deB pd = some ps ∧ Small h ps ∧ ∀ p S', S p = none → S' p = some (.lst ((turnsF h ps ps).map eT)) → SLe S S' → Q (.ref p) S')
  | _ => False
@[simp] theorem sp_law_turns_eq {h ps S Q E} : sp_law_turns [eH h, eB ps] S Q E = (Small h ps ∧ ∀ p S', S p = none → S' p = some (.lst ((turnsF h ps ps).map eT)) → SLe S S' → Q (.ref p) S') := by simp [sp_law_turns]
def t_law_turns_1 : DS := (dRet (dVar 2))
def t_law_turns_2 : DS := (dIfS (dAndT (dTst (dBin (pEq true) (dVar 3) (dVar 4))) (dTst (dBin (pIn false) (dVar 4) (dBin pIxA (dVar 0) (dVar 3))))) (dAsg (dBin pAdd (dVar 2) (dComp (iVal (dSortSet (dBin pIxA (dVar 0) (dVar 4)))) (kName 5) dYes (dTup (dCons (dVar 3) (dCons (dVar 4) (dCons (dVar 5) dNil)))) [5])) (kName 2)) dNext)
def t_law_turns_3 : DS := (dFor (iVal (dVar 1)) (kName 4) t_law_turns_2)
def t_law_turns_4 : DS := (dSeq (dFor (iVal (dVar 1)) (kName 3) t_law_turns_3) t_law_turns_1)
def t_law_turns : DS := (dSeq (dAsg (dLst dNil) (kName 2)) t_law_turns_4)
theorem w_law_turns : bodyW ["hall", "players", "found", "u", "v", "g"] t_law_turns sp_law_turns := by
  intro ds S Q E h
  unfold sp_law_turns at h
  split at h
  · rename_i hd pd
    obtain ⟨hh, ps, e1, e2, z, h⟩ := h
    obtain rfl := deH_some e1
    obtain rfl := deB_some e2
    show t_law_turns _ _ [some (eH hh), some (eB ps), none, none, none, none] S
    simp [t_law_turns]
    intro p hp
    simp [t_law_turns_4]
    rw [show srcOf (eB ps) (sup S p (.lst [])) = some (srcSeq (ps.map D.int)) from rfl]
    simp only
    refine for_inv (ps.map D.int) (fun i τ S' => ∃ p v3 v4 v5, τ = [some (eH hh), some (eB ps), some (.ref p), v3, v4, v5] ∧ S p = none ∧ S' p = some (.lst ((turnsF hh ps (ps.take i)).map eT)) ∧ SLe S S') ⟨p, _, _, _, rfl, hp, by simp [turnsF], SLe.new hp⟩ (fun i τ S' _ _ => rfl) ?_ ?_
    · rintro i d τ S1 hd ⟨p, v3, v4, v5, rfl, hp, ep, le⟩ P hP
      obtain ⟨u, hu, rfl, um⟩ := get_map hd
      simp [t_law_turns_3]
      rw [show srcOf (eB ps) S1 = some (srcSeq (ps.map D.int)) from rfl]
      simp only
      refine for_inv (ps.map D.int) (fun j τ S' => ∃ p v4 v5, τ = [some (eH hh), some (eB ps), some (.ref p), some (.int u), v4, v5] ∧ S p = none ∧ S' p = some (.lst ((turnsF hh ps (ps.take i) ++ turnsU hh ps u (ps.take j)).map eT)) ∧ SLe S S') ⟨p, _, _, rfl, hp, by simpa [turnsU] using ep, le⟩ (fun i τ S' _ _ => rfl) ?_ ?_
      · rintro j d τ S2 hd ⟨p, v4, v5, rfl, hp, ep, le⟩ P' hP'
        obtain ⟨v, hv, rfl, vm⟩ := get_map hd
        have ext : turnsU hh ps u (ps.take (j + 1)) = turnsU hh ps u (ps.take j) ++ goings hh ps u v := by
          unfold turnsU
          rw [take_snoc hv, List.flatMap_append]
          simp
        simp [t_law_turns_2, pIx_hall, z.sr u um, z.sr v vm, pIn_eB]
        have no : ¬ (u ≠ v ∧ v ∈ getB hh u) → wk (P' [some (eH hh), some (eB ps), some (.ref p), some (.int u), some (.int v), v5]) S2 := fun c => by
          refine wk.of (hP' _ _ ⟨p, _, _, rfl, hp, ?_, le⟩)
          rw [ext, show goings hh ps u v = [] from if_neg c, List.append_nil, ep]
        by_cases c1 : u = v
        · simpa [c1] using no (fun c => c.1 c1)
        · simp [c1]
          by_cases c2 : v ∈ getB hh u
          · simp [c2]
            have bl := z.sb _ (getB_mem (z.sr v vm))
            rw [show (eB (getB hh v)) = .tup ((getB hh v).map D.int) from rfl]
            simp only [ints_map]
            refine ⟨bl, fun q hq => ?_⟩
            rw [srcOf_ref sup_same]
            intro r hr
            refine comp_map (sortS (getB hh v)) D.int (fun g => eT (u, v, g)) hr (by have := sortS_len (l := getB hh v); exact len_small (by omega)) (fun k S' _ le => by simp only [srcLst, le _ _ sup_same]) (fun g S' hg le R hR => ?_) ?_
            · simp [wipeD]
              exact ⟨by decide, hR _ SLe.rfl⟩
            · rw [pAdd_lst (sup_old (sup_old ep hq) hr) sup_same (by
                have a1 := turnsF_len (us := ps.take i) z (by rw [List.length_take]; have := z.sp; omega)
                have a2 := turnsU_len (u := u) (vs := ps.take j) z (fun v hv => List.mem_of_mem_take hv) (by rw [List.length_take]; have := z.sp; omega)
                have a3 := sortS_len (l := getB hh v)
                simp only [List.length_append, List.length_map]
                have a4 : 64 * (64 * 64) + 64 * 64 + 64 ≤ sizeLine := by decide
                omega)]
              simp
              intro t ht
              refine wk.of (hP' _ _ ⟨t, _, _, rfl, ?_, ?_, ?_⟩)
              · exact le.none ((none_of_sup ((none_of_sup ht).1)).1)
              · rw [sup_same, ext, show goings hh ps u v = (sortS (getB hh v)).map (fun g => (u, v, g)) from if_pos ⟨c1, c2⟩]
                simp only [List.map_append, List.map_map, List.append_assoc]
                rfl
              · exact ((le.trans (SLe.new hq)).trans (SLe.new hr)).trans (SLe.new ht)
          · simpa [c2] using no (fun c => c2 c.2)
      · rintro τ S2 ⟨p, v4, v5, rfl, hp, ep, le⟩
        refine wk.of (hP _ _ ⟨p, _, _, _, rfl, hp, ?_, le⟩)
        have : turnsF hh ps (ps.take (i + 1)) = turnsF hh ps (ps.take i) ++ turnsU hh ps u ps := by
          unfold turnsF
          rw [take_snoc hu, List.flatMap_append]
          simp
        rw [List.length_map, List.take_length] at ep
        rw [this, ep]
    · rintro τ S1 ⟨p, v3, v4, v5, rfl, hp, ep, le⟩
      rw [List.length_map, List.take_length] at ep
      simp [t_law_turns_1]
      exact wk.of (h p S1 hp ep le)
  · exact h.elim
end DL

set_option Elab.async false
set_option linter.all false
set_option maxRecDepth 100000
set_option maxHeartbeats 4000000
namespace DL
open PySem PySem.Spec PyProof.Rows L2

/-! ### the hall behind a turn, the law's way -/
theorem idx_ints {v : Int} : ∀ {ns : List Int}, v ∈ ns → ∃ j, idxF (.int v) (ns.map D.int) = some j ∧ ns[j]? = some v
  | [], h => by cases h
  | n :: ns, h => by
    by_cases e : n = v
    · subst e
      exact ⟨0, by show (if (n == n) = true then some 0 else _) = _; simp, rfl⟩
    · have h' : v ∈ ns := by
        rcases List.mem_cons.mp h with z | z
        · exact absurd z.symm e
        · exact z
      obtain ⟨j, h1, h2⟩ := idx_ints h'
      refine ⟨j + 1, ?_, by simpa using h2⟩
      show (if (n == v) = true then some 0 else (idxF (.int v) (ns.map D.int)).map (· + 1)) = _
      rw [if_neg (by simpa using e), h1]; rfl
theorem pIndex_ints {S : SH} {p : Addr} {ns : List Int} {v : Int} (h : S p = some (.lst (ns.map D.int))) (hv : v ∈ ns) : ∃ j : Nat, ns[j]? = some v ∧ pIndex (.ref p) [.int v] S = .val (.int j) := by
  obtain ⟨j, h1, h2⟩ := idx_ints hv
  refine ⟨j, h2, ?_⟩
  simp only [pIndex, lstOf_ref h, flat_ints, h1, D.flat, Bool.and_self, if_true]
theorem set_perm {ns : List Int} {j : Nat} {v g : Int} (h : ns[j]? = some v) : (v :: ns.set j g).Perm (g :: ns) := by
  induction ns generalizing j with
  | nil => simp at h
  | cons n ns ih =>
    cases j with
    | zero => simp at h; subst h; exact List.Perm.swap _ _ _
    | succ j =>
      have := ih (j := j) (by simpa using h)
      rw [List.set_cons_succ]
      exact ((List.Perm.swap n v _).trans (this.cons n)).trans (List.Perm.swap g n _)
theorem sort_set {ns : List Int} {j : Nat} {v g : Int} (h : ns[j]? = some v) : sortI (ns.set j g) = xch ns v g := by
  have hv : v ∈ ns := List.mem_of_getElem? h
  refine sorted_unique ((sortI_perm _).trans ?_) (sortI_sorted _) (sortI_sorted _)
  refine List.Perm.trans ?_ (sortI_perm _).symm
  have h1 := set_perm (g := g) h
  have h2 : (g :: ns).Perm (v :: (ns.erase v ++ [g])) := by
    refine ((List.perm_cons_erase hv).cons g).trans ((List.Perm.swap v g _).trans (List.Perm.cons v ?_))
    exact List.perm_append_comm (l₁ := [g])
  exact (List.perm_cons v).mp (h1.trans h2)
structure Bags (S : SH) (B : Addr) (bs : List Addr) (h : List (List Int)) : Prop where
  e : S B = some (.lst (bs.map D.ref))
  l : bs.length = h.length
  nd : bs.Nodup
  nB : B ∉ bs
  g : ∀ (i : Nat) (b : Addr), bs[i]? = some b → ∃ ns, h[i]? = some ns ∧ S b = some (.lst (ns.map D.int))
theorem Bags.at_ {S : SH} {B : Addr} {bs : List Addr} {h : List (List Int)} (W : Bags S B bs h) {u : Int} (hu : inR h.length u = true) : ∃ b, bs[u.toNat]? = some b ∧ pIxA (.ref B) (.int u) S = .val (.ref b) ∧ S b = some (.lst ((getB h u).map D.int)) := by
  obtain ⟨b, h1, h2, h3⟩ := pIx_ref (i := u) W.e (by rw [W.l]; exact hu)
  obtain ⟨ns, e1, e2⟩ := W.g _ _ h1
  exact ⟨b, h1, h3, by unfold getB; rw [e1]; exact e2⟩
theorem Bags.put {S : SH} {B : Addr} {bs : List Addr} {h : List (List Int)} (W : Bags S B bs h) {u : Nat} {b : Addr} (hb : bs[u]? = some b) (ns : List Int) : Bags (sup S b (.lst (ns.map D.int))) B bs (h.set u ns) where
  e := by rw [sup_ne (fun z => W.nB (by rw [z]; exact List.mem_of_getElem? hb))]; exact W.e
  l := by rw [List.length_set]; exact W.l
  nd := W.nd
  nB := W.nB
  g := fun i b' hb' => by
    have lu : u < h.length := by
      rw [← W.l]
      by_cases z : u < bs.length
      · exact z
      · rw [List.getElem?_eq_none (by omega)] at hb; cases hb
    by_cases z : u = i
    · subst z
      rw [hb] at hb'
      cases hb'
      exact ⟨ns, List.getElem?_set_self lu, sup_same⟩
    · have ne : b' ≠ b := fun e => by
        subst e
        have l1 : u < bs.length := by rw [W.l]; exact lu
        have l2 : i < bs.length := by
          by_cases z : i < bs.length
          · exact z
          · rw [List.getElem?_eq_none (by omega)] at hb'; cases hb'
        rw [List.getElem?_eq_getElem l1] at hb
        rw [List.getElem?_eq_getElem l2] at hb'
        have eq := (Option.some.inj hb).trans (Option.some.inj hb').symm
        rcases Nat.lt_or_gt_of_ne z with z | z
        · exact (List.pairwise_iff_getElem.mp W.nd) u i l1 l2 z eq
        · exact (List.pairwise_iff_getElem.mp W.nd) i u l2 l1 z eq.symm
      obtain ⟨ns', e1, e2⟩ := W.g i b' hb'
      exact ⟨ns', by rw [List.getElem?_set_ne z]; exact e1, by rw [sup_ne ne]; exact e2⟩
def sp_law_behind : DSp := fun ds S Q _ => match ds with
  | [hd, .tup [.int u, .int v, .int g]] => ∃ h ps, deH hd = some h ∧ hallB h = true ∧ Goes h ps u v g ∧ Q (eH (bhd h u v g)) S
  | _ => False
theorem sp_law_behind_i {h : List (List Int)} {ps : List Int} {u v g : Int} {S : SH} {Q : QE} {E : XKD} (c : hallB h = true) (G : Goes h ps u v g) (q : Q (eH (bhd h u v g)) S) : sp_law_behind [eH h, eT (u, v, g)] S Q E := ⟨h, ps, deH_eH, c, G, q⟩
def t_law_behind_1 : DS := (dRet (dCB pTuple (dCons (dComp (iVal (dVar 5)) (kName 6) dYes (dCB pTuple (dCons (dCB pSorted (dCons (dVar 6) dNil)) dNil)) [6]) dNil)))
def t_law_behind_2 : DS := (dSeq (dAsg (dVar 2) (kSub pSetIx (dBin pIxA (dVar 5) (dVar 3)) (dMeth "list" pIndex (dBin pIxA (dVar 5) (dVar 3)) (dCons (dVar 4) dNil)))) t_law_behind_1)
def t_law_behind_3 : DS := (dSeq (dAsg (dVar 4) (kSub pSetIx (dBin pIxA (dVar 5) (dVar 2)) (dMeth "list" pIndex (dBin pIxA (dVar 5) (dVar 2)) (dCons (dVar 3) dNil)))) t_law_behind_2)
def t_law_behind_4 : DS := (dSeq (dAsg (dComp (iVal (dVar 0)) (kName 6) dYes (dCB pList (dCons (dVar 6) dNil)) [6]) (kName 5)) t_law_behind_3)
def t_law_behind : DS := (dSeq (dAsg (dVar 1) (kTup 3 (kCons (kName 2) (kCons (kName 3) (kCons (kName 4) kNil))))) t_law_behind_4)
theorem w_law_behind : bodyW ["hall", "turn", "u", "v", "g", "bags", "bag"] t_law_behind sp_law_behind := by
  intro ds S Q E h
  unfold sp_law_behind at h
  split at h
  · rename_i hd u v g
    obtain ⟨hh, ps, e, c, G, q⟩ := h
    obtain rfl := deH_some e
    obtain ⟨s1, s2, s3⟩ := hall_small c
    show t_law_behind _ _ [some (eH hh), some (.tup [.int u, .int v, .int g]), none, none, none, none, none] S
    simp [t_law_behind, t_law_behind_4]
    rw [show srcOf (eH hh) S = some (srcSeq (hh.map eB)) from rfl]
    intro B hB
    refine comp_inv (hh.map eB) (fun i S' => SLe S S' ∧ ∃ bs, Bags S' B bs (hh.take i) ∧ ∀ b ∈ bs, b ≠ B ∧ S b = none) ⟨SLe.new hB, [], ⟨sup_same, rfl, List.nodup_nil, (fun z => by cases z), fun i b hb => by simp at hb⟩, fun b hb => by cases hb⟩ (fun i S' _ _ => rfl) ?_ ?_
    · rintro i d S1 hd ⟨le, bs, W, nB⟩ P hP
      obtain ⟨ns, hn, rfl, nm⟩ := get_map hd
      simp [wipeD, eB]
      intro t ht
      have e5 : sup S1 t (.lst (ns.map D.int)) B = some (.lst (bs.map D.ref)) := sup_old W.e ht
      rw [e5]
      have il : i < hh.length := by
        by_cases z : i < hh.length
        · exact z
        · rw [List.getElem?_eq_none (by omega)] at hn; cases hn
      have tB : t ≠ B := fun z => by rw [z, W.e] at ht; cases ht
      have tn : t ∉ bs := fun hm => by
        obtain ⟨j, hj⟩ := List.getElem?_of_mem hm
        obtain ⟨ns', _, e'⟩ := W.g j t hj
        rw [ht] at e'; cases e'
      refine ⟨by rw [List.length_map, W.l, List.length_take]; exact Nat.lt_of_le_of_lt (show min i hh.length ≤ 12 by omega) (by decide), wk.of (hP _ ⟨(le.trans (SLe.new ht)).put_new hB, bs ++ [t], ⟨by rw [sup_same, List.map_append]; rfl, ?_, ?_, ?_, ?_⟩, ?_⟩)⟩
      · rw [take_snoc hn, List.length_append, List.length_append, W.l]; rfl
      · rw [List.nodup_append]
        exact ⟨W.nd, by simp, fun a ha b hb => by rw [List.mem_singleton.mp hb]; intro z; subst z; exact tn ha⟩
      · intro z
        rcases List.mem_append.mp z with z | z
        · exact W.nB z
        · exact tB (List.mem_singleton.mp z).symm
      · intro j b hb
        rw [take_snoc hn]
        by_cases z : j < bs.length
        · rw [List.getElem?_append_left z] at hb
          obtain ⟨ns', e1, e2⟩ := W.g j b hb
          have bB : b ≠ B := (nB b (List.mem_of_getElem? hb)).1
          exact ⟨ns', by rw [List.getElem?_append_left (by rw [← W.l]; exact z)]; exact e1, by rw [sup_ne bB]; exact sup_old e2 ht⟩
        · rw [List.getElem?_append_right (by omega)] at hb
          by_cases z2 : j - bs.length = 0
          · rw [z2] at hb
            simp at hb
            subst hb
            exact ⟨ns, by rw [List.getElem?_append_right (by rw [← W.l]; omega), ← W.l, z2]; rfl, by rw [sup_ne tB]; exact sup_same⟩
          · rw [List.getElem?_eq_none (by simp; omega)] at hb; cases hb
      · intro b hb
        rcases List.mem_append.mp hb with hb | hb
        · exact nB b hb
        · rw [List.mem_singleton.mp hb]; exact ⟨tB, le.none ht⟩
    · rintro S1 ⟨le, bs, W, nB⟩
      rw [List.length_map, List.take_length] at W
      obtain ⟨b1, g1, x1, y1⟩ := W.at_ G.hu
      obtain ⟨j1, k1, i1⟩ := pIndex_ints y1 G.vu
      have lt1 : j1 < (getB hh u).length := by
        by_cases z : j1 < (getB hh u).length
        · exact z
        · rw [List.getElem?_eq_none (by omega)] at k1; cases k1
      simp [t_law_behind_3, x1, tyIs_ref y1, i1]
      rw [pSetIx_of y1 (by omega) (by rw [List.length_map]; omega), resW_put, Int.toNat_natCast, ← List.map_set]
      have W2 := W.put g1 ((getB hh u).set j1 g)
      have hv2 : inR (hh.set u.toNat ((getB hh u).set j1 g)).length v = true := by rw [List.length_set]; exact G.hv
      have ev : getB (hh.set u.toNat ((getB hh u).set j1 g)) v = getB hh v := by
        unfold getB; rw [List.getElem?_set_ne (toNat_ne G.hu G.hv G.ne)]
      obtain ⟨b2, g2, x2, y2⟩ := W2.at_ hv2
      rw [ev] at y2
      obtain ⟨j2, k2, i2⟩ := pIndex_ints y2 G.gv
      have lt2 : j2 < (getB hh v).length := by
        by_cases z : j2 < (getB hh v).length
        · exact z
        · rw [List.getElem?_eq_none (by omega)] at k2; cases k2
      have y2' := y2
      generalize hS2 : sup S1 b1 (.lst (((getB hh u).set j1 g).map D.int)) = S2 at *
      simp [t_law_behind_2, x2, tyIs_ref y2, i2]
      rw [pSetIx_of y2 (by omega) (by rw [List.length_map]; omega), resW_put, Int.toNat_natCast, ← List.map_set]
      have W3 := W2.put g2 ((getB hh v).set j2 u)
      generalize hS3 : sup S2 b2 (.lst (((getB hh v).set j2 u).map D.int)) = S3 at *
      simp [t_law_behind_1, srcOf_ref W3.e]
      intro p hp
      refine comp_map bs D.ref (fun b => eB (sortI (bagOf S3 b))) hp (len_small (by rw [W.l]; omega)) (fun i S' _ le => by simp only [srcLst, le _ _ W3.e]) (fun b S' hb le R hR => ?_) ?_
      · obtain ⟨i, hi⟩ := List.getElem?_of_mem hb
        obtain ⟨ns, _, e2⟩ := W3.g i b hi
        simp [wipeD]
        rw [pSorted_ref (le _ _ e2), resW_new]
        intro t ht
        rw [pTuple_ref sup_same, resW_val]
        rw [bagOf_eq e2] at hR
        exact hR _ (SLe.new ht)
      · rw [pTuple_ref sup_same, resW_val]
        have ez : D.tup (bs.map fun b => eB (sortI (bagOf S3 b))) = eH (bhd hh u v g) := by
          unfold eH
          refine congrArg D.tup (List.ext_getElem? fun i => ?_)
          rw [List.getElem?_map, List.getElem?_map]
          cases hi : bs[i]? with
          | none =>
            have : (bhd hh u v g)[i]? = none := by
              rw [List.getElem?_eq_none_iff] at hi ⊢
              rw [bhd_len, ← W.l]; exact hi
            rw [this]; rfl
          | some b =>
            obtain ⟨ns, e1, e2⟩ := W3.g i b hi
            have il : i < hh.length := by
              rw [← W.l]
              by_cases z : i < bs.length
              · exact z
              · rw [List.getElem?_eq_none (by omega)] at hi; cases hi
            have uv := toNat_ne G.hu G.hv G.ne
            have hul := inR_iff.mp G.hu
            have hvl := inR_iff.mp G.hv
            have : (bhd hh u v g)[i]? = some (sortI ns) := by
              unfold bhd
              by_cases zv : v.toNat = i
              · subst zv
                rw [List.getElem?_set_self (by simp only [List.length_set]; omega)] at e1 ⊢
                cases e1
                rw [sort_set k2]
              · rw [List.getElem?_set_ne zv] at e1 ⊢
                by_cases zu : u.toNat = i
                · subst zu
                  rw [List.getElem?_set_self (by omega)] at e1 ⊢
                  cases e1
                  rw [sort_set k1]
                · rw [List.getElem?_set_ne zu] at e1 ⊢
                  rw [e1]
                  have := bag_sorted (book_bag (s3 ns (List.mem_of_getElem? e1)))
                  rw [sortI_id this]
            rw [this]
            show some (eB (sortI (bagOf S3 b))) = some (eB (sortI ns))
            rw [bagOf_eq e2]
        rw [ez]
        have le3 : SLe S S3 := by
          rw [← hS3, ← hS2]
          exact (le.put_new (nB b1 (List.mem_of_getElem? g1)).2).put_new (nB b2 (List.mem_of_getElem? g2)).2
        exact ⟨S, le3.trans (SLe.new hp), q⟩
  · exact h.elim
end DL

set_option Elab.async false
set_option linter.all false
set_option maxRecDepth 100000
set_option maxHeartbeats 4000000
namespace DL
open PySem PySem.Spec PyProof.Rows L2
/-- what the classes of the module are to each other -/
structure Told (C : Str → Addr) (kt xm : Value → Value → Option Bool) (xs : List (Str × Addr)) : Prop where
  x : xm (.ref (C "BadTurn")) (.ref (C "BadTurn")) = some true
  k : kt (.ref (C "BadTurn")) (.ref (C "CardFault")) = some true
  l : xs.lookup ("BadTurn" : Str) = some (C "BadTurn")
def sp_law_told : DSp := fun ds S Q _ => match ds with
  | [hd, pd, d] => ∃ h ps, deH hd = some h ∧ deB pd = some ps ∧ hallB h = true ∧ risB ps h.length = true ∧ okd S d ∧ (if goesB h ps d = true then ∃ u v g, d = eT (u, v, g) ∧ Q (.tup [.str "told", eH (bhd h u v g)]) S else Q (.tup [.str "refused", .bl true]) S)
  | _ => False
def t_law_told_1 (C : Str → Addr) (kt : Value → Value → Option Bool) (xm : Value → Value → Option Bool) (xs : List (Str × Addr)) : DS := (dRet (dVar 3))
def t_law_told_2 (C : Str → Addr) (kt : Value → Value → Option Bool) (xm : Value → Value → Option Bool) (xs : List (Str × Addr)) : DS := (dSeq (dTryAs (fun cls => xm cls (.ref (C "BadTurn"))) xs 4 (dAsg (dTup (dCons (dC (.str "told")) (dCons (dCall (sp_turned C) (dCons (dVar 0) (dCons (dVar 1) (dCons (dVar 2) dNil)))) dNil))) (kName 3)) (fun a cls => (dAsg (dTup (dCons (dC (.str "refused")) (dCons (dIsE kt a cls (dCons (dVar 4) (dCons (dC (.ref (C "CardFault"))) dNil))) dNil))) (kName 3)))) (t_law_told_1 C kt xm xs))
def t_law_told (C : Str → Addr) (kt : Value → Value → Option Bool) (xm : Value → Value → Option Bool) (xs : List (Str × Addr)) : DS := (dSeq (dAsg (dC .non) (kName 3)) (t_law_told_2 C kt xm xs))
section
variable (C : Str → Addr) (kt xm : Value → Value → Option Bool) (xs : List (Str × Addr))
theorem w_law_told (T : Told C kt xm xs) : bodyW ["hall", "players", "thing", "found", "e"] (t_law_told C kt xm xs) sp_law_told := by
  intro ds S Q E h
  unfold sp_law_told at h
  split at h
  · rename_i hd pd d
    obtain ⟨h', ps, e1, e2, c, r, k, h⟩ := h
    obtain rfl := deH_some e1
    obtain rfl := deB_some e2
    obtain ⟨s1, s2, s3⟩ := hall_small c
    show t_law_told C kt xm xs _ _ [some (eH h'), some (eB ps), some d, none, none] S
    simp [t_law_told, t_law_told_2, dTryAs, okd_hall c, okd_ris r (by omega : h'.length ≤ 1000), k, chk_ok c r]
    split at h
    · rename_i z
      obtain ⟨u, v, g, rfl, h⟩ := h
      simp [z]
      refine ⟨u, v, g, rfl, by decide, ?_⟩
      simp [t_law_told_1]
      exact wk.of h
    · rename_i z
      simp [z]
      unfold asK
      simp only [T.x]
      refine ⟨trivial, ⟨_, _, T.l, rfl⟩, fun a ha => ?_⟩
      simp [dIsE, T.k]
      refine ⟨by decide, ?_⟩
      simp [t_law_told_1]
      exact wk.of h
  · exact h.elim
end
end DL

set_option Elab.async false
set_option linter.all false
set_option maxRecDepth 100000
set_option maxHeartbeats 4000000
namespace DL
open PySem PySem.Spec PyProof.Rows L2
def sp_law_are_listed : DSp := fun ds S Q _ => match ds with
  | [.ref a, hd, pd] => ∃ h ps c, deH hd = some h ∧ deB pd = some ps ∧ hallB h = true ∧ risB ps h.length = true ∧ Hand S a c ∧ ∀ S', Hand S' a c → Kp a S S' → Q (.bl true) S'
  | _ => False
def t_law_are_listed_1 (C : Str → Addr) : DS := (dRet (dCall (sp_law_same 6) (dCons (dCall (sp_turns C) (dCons (dVar 1) (dCons (dVar 2) dNil))) (dCons (dVar 3) dNil))))
def t_law_are_listed_2 (C : Str → Addr) : DS := (dIfS (dAndT (dNotT (dTst (dVar 12))) (dNotT (dTst (dCall (sp_law_same 6) (dCons (dCall sp_law_told (dCons (dVar 1) (dCons (dVar 2) (dCons (dTup (dCons (dVar 7) (dCons (dVar 8) (dCons (dVar 9) dNil)))) dNil)))) (dCons (dTup (dCons (dC (.str "refused")) (dCons (dC (.bl true)) dNil))) dNil)))))) (dRet (dC (.bl false))) dNext)
def t_law_are_listed_3 (C : Str → Addr) : DS := (dSeq (dIfS (dNotT (dTst (dCall (sp_law_same 6) (dCons (dCall (sp_is_turn C) (dCons (dVar 1) (dCons (dVar 2) (dCons (dTup (dCons (dVar 7) (dCons (dVar 8) (dCons (dVar 9) dNil)))) dNil)))) (dCons (dVar 12) dNil))))) (dRet (dC (.bl false))) dNext) (t_law_are_listed_2 C))
def t_law_are_listed_4 (C : Str → Addr) : DS := (dSeq (dAsg (dBin (pIn false) (dTup (dCons (dVar 7) (dCons (dVar 8) (dCons (dVar 9) dNil)))) (dVar 3)) (kName 12)) (t_law_are_listed_3 C))
def t_law_are_listed_5 (C : Str → Addr) : DS := (dSeq (dAsg (dIf (dAndT (dTst (dBin pGt (dCB pLen (dCons (dBin pIxA (dVar 1) (dVar 8)) dNil)) (dC (.int 0)))) (dTst (dBin pGt (dCall sp_law_draw (dCons (dVar 0) (dCons (dC (.int 2)) dNil))) (dC (.int 0))))) (dCall sp_law_any (dCons (dVar 0) (dCons (dBin pIxA (dVar 1) (dVar 8)) dNil))) (dCall sp_law_draw (dCons (dVar 0) (dCons (dVar 11) dNil)))) (kName 9)) (t_law_are_listed_4 C))
def t_law_are_listed_6 (C : Str → Addr) : DS := (dSeq (dAsg (dIf (dAndT (dTst (dBin pGt (dCB pLen (dCons (dBin pIxA (dVar 1) (dVar 7)) dNil)) (dC (.int 0)))) (dTst (dBin pGt (dCall sp_law_draw (dCons (dVar 0) (dCons (dC (.int 3)) dNil))) (dC (.int 0))))) (dCall sp_law_any (dCons (dVar 0) (dCons (dBin pIxA (dVar 1) (dVar 7)) dNil))) (dCall sp_law_draw (dCons (dVar 0) (dCons (dVar 11) dNil)))) (kName 8)) (t_law_are_listed_5 C))
def t_law_are_listed_7 (C : Str → Addr) : DS := (dSeq (dAsg (dCall sp_law_draw (dCons (dVar 0) (dCons (dVar 11) dNil))) (kName 7)) (t_law_are_listed_6 C))
def t_law_are_listed_8 (C : Str → Addr) : DS := (dSeq (dFor (iRng1 (dC (.int 16))) (kName 5) (t_law_are_listed_7 C)) (t_law_are_listed_1 C))
def t_law_are_listed_9 (C : Str → Addr) : DS := (dSeq (dAsg (dCB pLen (dCons (dVar 1) dNil)) (kName 11)) (t_law_are_listed_8 C))
def t_law_are_listed_10 (C : Str → Addr) : DS := (dIfS (dAndT (dTst (dBin pLt (dVar 5) (dC (.int 2)))) (dNotT (dTst (dCall (sp_law_same 6) (dCons (dCall (sp_turns C) (dCons (dVar 10) (dCons (dVar 2) dNil))) (dCons (dCall sp_law_turns (dCons (dVar 10) (dCons (dVar 2) dNil))) dNil)))))) (dRet (dC (.bl false))) dNext)
def t_law_are_listed_11 (C : Str → Addr) : DS := (dSeq (dIfS (dOrT (dTst (dBin (pIs true) (dCall (sp_is_turn C) (dCons (dVar 10) (dCons (dVar 2) (dCons (dTup (dCons (dVar 8) (dCons (dVar 7) (dCons (dVar 9) dNil)))) dNil)))) (dC (.bl true)))) (dNotT (dTst (dCall (sp_law_same 6) (dCons (dCall (sp_turned C) (dCons (dVar 10) (dCons (dVar 2) (dCons (dTup (dCons (dVar 8) (dCons (dVar 7) (dCons (dVar 9) dNil)))) dNil)))) (dCons (dVar 1) dNil)))))) (dRet (dC (.bl false))) dNext) (t_law_are_listed_10 C))
def t_law_are_listed_12 (C : Str → Addr) : DS := (dSeq (dIfS (dOrT (dTst (dBin (pIs true) (dCall (sp_is_turn C) (dCons (dVar 1) (dCons (dVar 2) (dCons (dVar 6) dNil)))) (dC (.bl true)))) (dNotT (dTst (dCall (sp_law_same 6) (dCons (dCall (sp_turned C) (dCons (dVar 1) (dCons (dVar 2) (dCons (dVar 6) dNil)))) (dCons (dVar 10) dNil)))))) (dRet (dC (.bl false))) dNext) (t_law_are_listed_11 C))
def t_law_are_listed_13 (C : Str → Addr) : DS := (dSeq (dAsg (dCall sp_law_behind (dCons (dVar 1) (dCons (dVar 6) dNil))) (kName 10)) (t_law_are_listed_12 C))
def t_law_are_listed_14 (C : Str → Addr) : DS := (dSeq (dAsg (dVar 6) (kTup 3 (kCons (kName 7) (kCons (kName 8) (kCons (kName 9) kNil))))) (t_law_are_listed_13 C))
def t_law_are_listed_15 (C : Str → Addr) : DS := (dSeq (dAsg (dCall sp_law_any (dCons (dVar 0) (dCons (dVar 3) dNil))) (kName 6)) (t_law_are_listed_14 C))
def t_law_are_listed_16 (C : Str → Addr) : DS := (dSeq (dFor (iRng1 (dIf (dTst (dBin pGt (dCB pLen (dCons (dVar 3) dNil)) (dC (.int 0)))) (dC (.int 8)) (dC (.int 0)))) (kName 5) (t_law_are_listed_15 C)) (t_law_are_listed_9 C))
def t_law_are_listed_17 (C : Str → Addr) : DS := (dSeq (dExpr (dMeth "list" pAppend (dVar 4) (dCons (dTup (dCons (dC (.int 0)) (dCons (dC (.int 0)) (dCons (dC (.int 0)) dNil)))) dNil))) (t_law_are_listed_16 C))
def t_law_are_listed_18 (C : Str → Addr) : DS := (dSeq (dIfS (dNotT (dTst (dCall (sp_law_same 6) (dCons (dVar 4) (dCons (dVar 3) dNil))))) (dRet (dC (.bl false))) dNext) (t_law_are_listed_17 C))
def t_law_are_listed_19 (C : Str → Addr) : DS := (dSeq (dAsg (dCall (sp_turns C) (dCons (dVar 1) (dCons (dVar 2) dNil))) (kName 4)) (t_law_are_listed_18 C))
def t_law_are_listed (C : Str → Addr) : DS := (dSeq (dAsg (dCall sp_law_turns (dCons (dVar 1) (dCons (dVar 2) dNil))) (kName 3)) (t_law_are_listed_19 C))
structure Lst (S0 S : SH) (a c p : Addr) (l : List (Int × Int × Int)) : Prop where
  H : Hand S a c
  k : Kp a S0 S
  e : S p = some (.lst (l.map eT))
  n : p ≠ a
theorem Lst.draw {S0 S S' : SH} {a c p : Addr} {l : List (Int × Int × Int)} (L : Lst S0 S a c p l) (H : Hand S' a c) (k : Kp a S S') : Lst S0 S' a c p l := ⟨H, L.k.trans k, k _ _ L.n L.e, L.n⟩
theorem Lst.le {S0 S S' : SH} {a c p : Addr} {l : List (Int × Int × Int)} (L : Lst S0 S a c p l) (m : SLe S S') : Lst S0 S' a c p l := ⟨L.H.mono m, L.k.trans (Kp.le m), m _ _ L.e, L.n⟩
theorem rng_src {lo : Int} {n i : Nat} {S : SH} : srcRng lo n i S = some ((List.range n).map fun (i : Nat) => D.int (lo + (i : Int)))[i]? := by
  rw [List.getElem?_map]
  unfold srcRng
  by_cases z : i < n
  · rw [if_pos z, List.getElem?_range z]; rfl
  · rw [if_neg z, List.getElem?_eq_none (by rw [List.length_range]; omega)]; rfl
section
variable {C : Str → Addr} {S S0 : SH} {a c p : Addr} {h : List (List Int)} {ps : List Int} {Q : QE} {E : EK} {nx : SDl → SH → Prop} {DD : DEnds} {v4 v5 v6 v7 v8 v9 v10 v11 v12 : Option D} {u v g : Int}
theorem al1 (ch : hallB h = true) (r : risB ps h.length = true) (L : Lst S0 S a c p (turnsF h ps ps)) (q : ∀ S', Hand S' a c → Kp a S0 S' → Q (.bl true) S') :
    t_law_are_listed_1 C E { nx := nx, rt := Q } [some (.ref a), some (eH h), some (eB ps), some (.ref p), v4, v5, v6, v7, v8, v9, v10, v11, v12] S := by
  obtain ⟨s1, s2, s3⟩ := hall_small ch
  simp [t_law_are_listed_1, okd_hall ch, okd_ris r (by omega : h.length ≤ 1000), chk_ok ch r]
  intro t ht
  refine ⟨Sm.mono (n := 6) SLe.rfl ?_, wk.of (q _ (L.H.new ht) (L.k.trans (Kp.le (SLe.new ht))))⟩
  have z := small_of ch r
  refine Sm.lst sup_same (sup_old L.e ht) ?_ (fun x hx => ?_)
  · rw [List.length_map]
    exact Nat.le_trans (turnsF_len z (by have := z.sp; omega)) (by decide)
  · obtain ⟨w, _, rfl⟩ := List.mem_map.mp hx
    exact (pure_eT w).up (by decide)
theorem al2 (ch : hallB h = true) (r : risB ps h.length = true) (L : Lst S0 S a c p (turnsF h ps ps)) (hu : inR h.length u = true) (hv : inR h.length v = true) (hg : inR h.length g = true)
    (q : ∀ S', Lst S0 S' a c p (turnsF h ps ps) → ∀ v12, DD.nx [some (.ref a), some (eH h), some (eB ps), some (.ref p), v4, v5, v6, some (.int u), some (.int v), some (.int g), v10, v11, v12] S') :
    t_law_are_listed_4 C E DD [some (.ref a), some (eH h), some (eB ps), some (.ref p), v4, v5, v6, some (.int u), some (.int v), some (.int g), v10, v11, v12] S := by
  obtain ⟨s1, s2, s3⟩ := hall_small ch
  simp [t_law_are_listed_4]
  refine ⟨by decide, ?_⟩
  rw [show D.tup [D.int u, D.int v, D.int g] = eT (u, v, g) from rfl, pIn_eT L.e, resW_val]
  have e := goesB_mem ch r (u := u) (v := v) (g := g)
  simp [t_law_are_listed_3]
  refine ⟨by decide, okd_hall ch, okd_ris r (by omega), okd_eT (q := (u, v, g)), ?_⟩
  rw [show D.tup [D.int u, D.int v, D.int g] = eT (u, v, g) from rfl, chk_ok ch r]
  refine ⟨by rw [e]; exact Sm.refl (n := 6) (.inr trivial), ?_⟩
  simp [t_law_are_listed_2]
  by_cases z : (u, v, g) ∈ turnsF h ps ps
  · simp [z]
    exact q _ L _
  · simp [z]
    refine ⟨by decide, h, ps, deH_eH, deB_eB, ch, r, okd_eT (q := (u, v, g)), ?_⟩
    rw [show D.tup [D.int u, D.int v, D.int g] = eT (u, v, g) from rfl, e]
    simp [z]
    refine ⟨by decide, Sm.refl (n := 6) (.inl ⟨_, rfl, by decide, fun x hx => ?_⟩), q _ L _⟩
    simp at hx
    rcases hx with rfl | rfl
    · exact .inr (by show SeqAt.shaped (.str "refused") = true; decide +kernel)
    · exact .inr trivial
end
end DL

set_option Elab.async false
set_option linter.all false
set_option maxRecDepth 100000
set_option maxHeartbeats 4000000
namespace DL
open PySem PySem.Spec PyProof.Rows L2
section
variable {C : Str → Addr} {S S0 : SH} {a c p : Addr} {h : List (List Int)} {ps : List Int} {Q : QE} {E : EK} {nx : SDl → SH → Prop} {DD : DEnds} {v4 v5 v6 v7 v8 v9 v10 v11 v12 : Option D} {u v g : Int}
/-- a card of the book u, or any person -/
theorem pick {m : Int} {P : D → SH → Prop} (ch : hallB h = true) (L : Lst S0 S a c p (turnsF h ps ps)) (hu : inR h.length u = true) (m0 : 0 < m) (m1 : m < 100)
    (q : ∀ S' x, Lst S0 S' a c p (turnsF h ps ps) → inR h.length x = true → P (.int x) S') :
    if decide (0 < ((getB h u).length : Int)) = true then
      0 < m ∧ m < 1073741824 ∧ ∃ c, Hand S a c ∧ ∀ r S', inR m r = true → Hand S' a c → Kp a S S' → if decide (0 < r) = true then
          (eB (getB h u) ≠ .ref a ∧ ∃ l c, itemsOf (eB (getB h u)) S' = some l ∧ 0 < l.length ∧ l.length < 1073741824 ∧ Hand S' a c ∧ ∀ d S'', d ∈ l → Hand S'' a c → Kp a S' S'' → P d S'')
        else 0 < (h.length : Int) ∧ (h.length : Int) < 1073741824 ∧ ∃ c, Hand S' a c ∧ ∀ r S'', inR h.length r = true → Hand S'' a c → Kp a S' S'' → P (.int r) S''
    else 0 < (h.length : Int) ∧ (h.length : Int) < 1073741824 ∧ ∃ c, Hand S a c ∧ ∀ r S', inR h.length r = true → Hand S' a c → Kp a S S' → P (.int r) S' := by
  obtain ⟨s1, s2, s3⟩ := hall_small ch
  have bk := hall_bag ch hu
  have bs := bag_small bk
  split
  · rename_i z
    have z := of_decide_eq_true z
    refine ⟨m0, by omega, c, L.H, fun r S' hr H k => ?_⟩
    have L' := L.draw H k
    split
    · refine ⟨(fun z => by cases z), (getB h u).map D.int, c, rfl, by rw [List.length_map]; omega, by rw [List.length_map]; omega, H, fun d S'' hd H' k' => ?_⟩
      obtain ⟨x, hx, rfl⟩ := List.mem_map.mp hd
      exact q _ _ (L'.draw H' k') (bag_in (book_bag bk) x hx)
    · exact ⟨by omega, by omega, c, H, fun r S'' hr H' k' => q _ _ (L'.draw H' k') hr⟩
  · exact ⟨by omega, by omega, c, L.H, fun r S' hr H k => q _ _ (L.draw H k) hr⟩
theorem al7 (ch : hallB h = true) (r : risB ps h.length = true) (L : Lst S0 S a c p (turnsF h ps ps))
    (q : ∀ S' v7 v8 v9 v12, Lst S0 S' a c p (turnsF h ps ps) → DD.nx [some (.ref a), some (eH h), some (eB ps), some (.ref p), v4, v5, v6, v7, v8, v9, v10, some (.int h.length), v12] S') :
    t_law_are_listed_7 C E DD [some (.ref a), some (eH h), some (eB ps), some (.ref p), v4, v5, v6, v7, v8, v9, v10, some (.int h.length), v12] S := by
  obtain ⟨s1, s2, s3⟩ := hall_small ch
  simp only [t_law_are_listed_7, dSeq_eq, dAsg_eq, dCall_eq, dCons_eq, dVar_eq, List.getElem?_cons_zero, List.getElem?_cons_succ, dNil_eq, sp_law_draw_eq, kName_eq, List.set_cons_succ, List.set_cons_zero]
  refine ⟨by omega, by omega, c, L.H, fun u S1 hu H1 k1 => ?_⟩
  have L1 := L.draw H1 k1
  have bu : pLen [eB (getB h u)] = fun S => Res.val (.int (getB h u).length) := by funext S; simp [eB]
  simp only [t_law_are_listed_6, dSeq_eq, dAsg_eq, dIf_eq, dAndT_eq, dTst_eq, dBin_eq, dCB_eq, dCall_eq, dCons_eq, dVar_eq, List.getElem?_cons_zero, List.getElem?_cons_succ, dNil_eq, dC_eq, pIx_hall hu, resW_val, bu, pGt_int, isB_bl, sp_law_draw_eq, sp_law_any_eq, kName_eq, List.set_cons_succ, List.set_cons_zero]
  have key := pick (u := u) (m := 3) (P := fun d S => t_law_are_listed_5 C E DD [some (.ref a), some (eH h), some (eB ps), some (.ref p), v4, v5, v6, some (.int u), some d, v9, v10, some (.int h.length), v12] S) ch L1 hu (by decide) (by decide) (fun S2 v L2 hv => by
    have bv : pLen [eB (getB h v)] = fun S => Res.val (.int (getB h v).length) := by funext S; simp [eB]
    simp only [t_law_are_listed_5, dSeq_eq, dAsg_eq, dIf_eq, dAndT_eq, dTst_eq, dBin_eq, dCB_eq, dCall_eq, dCons_eq, dVar_eq, List.getElem?_cons_zero, List.getElem?_cons_succ, dNil_eq, dC_eq, pIx_hall hv, resW_val, bv, pGt_int, isB_bl, sp_law_draw_eq, sp_law_any_eq, kName_eq, List.set_cons_succ, List.set_cons_zero]
    have key := pick (u := v) (m := 2) (P := fun d S => t_law_are_listed_4 C E DD [some (.ref a), some (eH h), some (eB ps), some (.ref p), v4, v5, v6, some (.int u), some (.int v), some d, v10, some (.int h.length), v12] S) ch L2 hv (by decide) (by decide) (fun S3 g L3 hg => al2 ch r L3 hu hv hg fun S' L' v12 => q S' _ _ _ _ L')
    simp only [Bool.false_eq_true, if_false]
    exact key)
  simp only [Bool.false_eq_true, if_false]
  exact key
theorem al9 (ch : hallB h = true) (r : risB ps h.length = true) (L : Lst S0 S a c p (turnsF h ps ps)) (q : ∀ S', Hand S' a c → Kp a S0 S' → Q (.bl true) S') :
    t_law_are_listed_9 C E { nx := nx, rt := Q } [some (.ref a), some (eH h), some (eB ps), some (.ref p), v4, v5, v6, v7, v8, v9, v10, v11, v12] S := by
  simp only [t_law_are_listed_9, dSeq_eq, dAsg_eq, dCB_eq, dCons_eq, dVar_eq, List.getElem?_cons_zero, List.getElem?_cons_succ, dNil_eq]
  rw [show pLen [eH h] S = .val (.int h.length) from by simp [eH], resW_val]
  simp only [t_law_are_listed_8, dSeq_eq, dFor_eq, iRng1_eq, dC_eq, kName_eq, List.set_cons_succ, List.set_cons_zero]
  refine ⟨⟨by decide, by decide⟩, ?_⟩
  refine for_inv ((List.range 16).map fun (i : Nat) => D.int (0 + (i : Int))) (fun i τ S' => (∃ v5 v7 v8 v9 v12, τ = [some (.ref a), some (eH h), some (eB ps), some (.ref p), v4, v5, v6, v7, v8, v9, v10, some (.int h.length), v12]) ∧ Lst S0 S' a c p (turnsF h ps ps)) ⟨⟨_, _, _, _, _, rfl⟩, L⟩ (fun i τ S' _ _ => rng_src) ?_ ?_
  · rintro i d τ S' hd ⟨⟨v5, v7, v8, v9, v12, rfl⟩, L'⟩ P hP
    simp only [kName_eq, List.set_cons_succ, List.set_cons_zero]
    exact al7 ch r L' fun S'' v7 v8 v9 v12 L'' => wk.of (hP _ _ ⟨⟨_, _, _, _, _, rfl⟩, L''⟩)
  · rintro τ S' ⟨⟨v5, v7, v8, v9, v12, rfl⟩, L'⟩
    exact al1 ch r L' q
end
end DL

set_option Elab.async false
set_option linter.all false
set_option maxRecDepth 100000
set_option maxHeartbeats 4000000
namespace DL
open PySem PySem.Spec PyProof.Rows L2
theorem turnsF_size {h : List (List Int)} {ps : List Int} (ch : hallB h = true) (r : risB ps h.length = true) : (turnsF h ps ps).length ≤ 262144 := by
  have z := small_of ch r
  exact Nat.le_trans (turnsF_len z (by have := z.sp; omega)) (by decide)
section
variable {C : Str → Addr} {S S0 : SH} {a c p : Addr} {h : List (List Int)} {ps : List Int} {Q : QE} {E : EK} {nx : SDl → SH → Prop} {DD : DEnds} {v4 v5 v6 v7 v8 v9 v10 v11 v12 : Option D} {u v g i : Int}
theorem al10 (ch : hallB h = true) (r : risB ps h.length = true) (L : Lst S0 S a c p (turnsF h ps ps)) (G : Goes h ps u v g)
    (q : ∀ S', Lst S0 S' a c p (turnsF h ps ps) → DD.nx [some (.ref a), some (eH h), some (eB ps), some (.ref p), v4, some (.int i), v6, v7, v8, v9, some (eH (bhd h u v g)), v11, v12] S') :
    t_law_are_listed_10 C E DD [some (.ref a), some (eH h), some (eB ps), some (.ref p), v4, some (.int i), v6, v7, v8, v9, some (eH (bhd h u v g)), v11, v12] S := by
  obtain ⟨s1, s2, s3⟩ := hall_small ch
  have ch' := hall_bhd ch G
  have r' : risB ps (bhd h u v g).length = true := by rw [bhd_len]; exact r
  simp [t_law_are_listed_10]
  split
  · refine ⟨okd_hall ch', okd_ris r' (by rw [bhd_len]; omega), ?_⟩
    rw [chk_ok ch' r']
    intro t ht
    refine ⟨small_of ch' r', fun t2 S2 ht2 e2 le2 => ⟨?_, q _ ((L.le (SLe.new ht)).le le2)⟩⟩
    refine Sm.lst (n := 5) (le2 _ _ sup_same) e2 ?_ (fun x hx => ?_)
    · rw [List.length_map]
      exact Nat.le_trans (turnsF_size ch' r') (by decide)
    · obtain ⟨w, _, rfl⟩ := List.mem_map.mp hx
      exact (pure_eT w).up (by decide)
  · exact q _ L
theorem al11 (ch : hallB h = true) (r : risB ps h.length = true) (L : Lst S0 S a c p (turnsF h ps ps)) (G : Goes h ps u v g)
    (q : ∀ S', Lst S0 S' a c p (turnsF h ps ps) → DD.nx [some (.ref a), some (eH h), some (eB ps), some (.ref p), v4, some (.int i), v6, some (.int u), some (.int v), some (.int g), some (eH (bhd h u v g)), v11, v12] S') :
    t_law_are_listed_11 C E DD [some (.ref a), some (eH h), some (eB ps), some (.ref p), v4, some (.int i), v6, some (.int u), some (.int v), some (.int g), some (eH (bhd h u v g)), v11, v12] S := by
  obtain ⟨s1, s2, s3⟩ := hall_small ch
  have ch' := hall_bhd ch G
  have r' : risB ps (bhd h u v g).length = true := by rw [bhd_len]; exact r
  have G' := goes_bhd G
  simp [t_law_are_listed_11]
  refine ⟨by decide, okd_hall ch', okd_ris r' (by rw [bhd_len]; omega), okd_eT (q := (v, u, g)), ?_⟩
  rw [show D.tup [D.int v, D.int u, D.int g] = eT (v, u, g) from rfl, chk_ok ch' r', goes_iff.mpr G']
  simp [okd_hall ch', okd_ris r' (by rw [bhd_len]; omega : (bhd h u v g).length ≤ 1000), chk_ok ch' r', goes_iff.mpr G']
  refine ⟨by decide, okd_eT (q := (v, u, g)), v, u, g, rfl, ?_⟩
  rw [bhd_bhd ch G]
  exact ⟨Sm.refl ((pure_eH ch).up (by decide)), al10 ch r L G q⟩
theorem al12 (ch : hallB h = true) (r : risB ps h.length = true) (L : Lst S0 S a c p (turnsF h ps ps)) (G : Goes h ps u v g)
    (q : ∀ S', Lst S0 S' a c p (turnsF h ps ps) → DD.nx [some (.ref a), some (eH h), some (eB ps), some (.ref p), v4, some (.int i), some (eT (u, v, g)), some (.int u), some (.int v), some (.int g), some (eH (bhd h u v g)), v11, v12] S') :
    t_law_are_listed_13 C E DD [some (.ref a), some (eH h), some (eB ps), some (.ref p), v4, some (.int i), some (eT (u, v, g)), some (.int u), some (.int v), some (.int g), v10, v11, v12] S := by
  obtain ⟨s1, s2, s3⟩ := hall_small ch
  have ch' := hall_bhd ch G
  simp [t_law_are_listed_13]
  refine sp_law_behind_i ch G ?_
  simp [t_law_are_listed_12, okd_hall ch, okd_ris r (by omega : h.length ≤ 1000), chk_ok ch r, goes_iff.mpr G, okd_eT]
  exact ⟨u, v, g, rfl, Sm.refl ((pure_eH ch').up (by decide)), al11 ch r L G q⟩
theorem al15 (ch : hallB h = true) (r : risB ps h.length = true) (L : Lst S0 S a c p (turnsF h ps ps)) (pos : 0 < (turnsF h ps ps).length)
    (q : ∀ S' v6 v7 v8 v9 v10, Lst S0 S' a c p (turnsF h ps ps) → DD.nx [some (.ref a), some (eH h), some (eB ps), some (.ref p), v4, some (.int i), v6, v7, v8, v9, v10, v11, v12] S') :
    t_law_are_listed_15 C E DD [some (.ref a), some (eH h), some (eB ps), some (.ref p), v4, some (.int i), v6, v7, v8, v9, v10, v11, v12] S := by
  simp only [t_law_are_listed_15, dSeq_eq, dAsg_eq, dCall_eq, dCons_eq, dVar_eq, List.getElem?_cons_zero, List.getElem?_cons_succ, dNil_eq, sp_law_any_eq, kName_eq, List.set_cons_succ, List.set_cons_zero]
  have sz := turnsF_size ch r
  refine ⟨fun z => L.n (by cases z; rfl), _, c, items_ref L.e, by rw [List.length_map]; exact pos, by rw [List.length_map]; omega, L.H, fun d S' hd H k => ?_⟩
  obtain ⟨⟨u, v, g⟩, hw, rfl⟩ := List.mem_map.mp hd
  have G := (goes_mem ch r).mpr hw
  simp only [t_law_are_listed_14, dSeq_eq, dAsg_eq, dVar_eq, List.getElem?_cons_zero, List.getElem?_cons_succ, kTup_eq]
  rw [show itemsOf (eT (u, v, g)) S' = some [.int u, .int v, .int g] from rfl]
  simp only [kCons_eq, kName_eq, kNil_eq, List.set_cons_succ, List.set_cons_zero]
  exact ⟨rfl, al12 ch r (L.draw H k) G fun S'' L'' => q _ _ _ _ _ _ L''⟩
theorem al16 (ch : hallB h = true) (r : risB ps h.length = true) (L : Lst S0 S a c p (turnsF h ps ps)) (q : ∀ S', Hand S' a c → Kp a S0 S' → Q (.bl true) S') :
    t_law_are_listed_16 C E { nx := nx, rt := Q } [some (.ref a), some (eH h), some (eB ps), some (.ref p), v4, v5, v6, v7, v8, v9, v10, v11, v12] S := by
  simp only [t_law_are_listed_16, dSeq_eq, dFor_eq, iRng1_eq, dIf_eq, dTst_eq, dBin_eq, dCB_eq, dCons_eq, dVar_eq, List.getElem?_cons_zero, List.getElem?_cons_succ, dNil_eq, dC_eq, pLen_ref L.e, resW_val, pGt_int, isB_bl]
  have go : ∀ n : Nat, n ≤ 8 → (0 < n → 0 < (turnsF h ps ps).length) → ∃ m, dForN (srcRng 0 n) (kName 5) (t_law_are_listed_15 C) m 0 E { nx := fun τ' S' => t_law_are_listed_9 C E { nx := nx, rt := Q } τ' S', rt := Q } [some (.ref a), some (eH h), some (eB ps), some (.ref p), v4, v5, v6, v7, v8, v9, v10, v11, v12] S := fun n hn pos => by
    refine for_inv ((List.range n).map fun (i : Nat) => D.int (0 + (i : Int))) (fun i τ S' => (∃ v5 v6 v7 v8 v9 v10, τ = [some (.ref a), some (eH h), some (eB ps), some (.ref p), v4, v5, v6, v7, v8, v9, v10, v11, v12]) ∧ Lst S0 S' a c p (turnsF h ps ps)) ⟨⟨_, _, _, _, _, _, rfl⟩, L⟩ (fun i τ S' _ _ => rng_src) ?_ ?_
    · rintro i d τ S' hd ⟨⟨v5, v6, v7, v8, v9, v10, rfl⟩, L'⟩ P hP
      obtain ⟨w, hw, rfl, hm⟩ := get_map hd
      simp only [kName_eq, List.set_cons_succ, List.set_cons_zero]
      exact al15 ch r L' (pos (by have := List.mem_range.mp hm; omega)) fun S'' v6 v7 v8 v9 v10 L'' => wk.of (hP _ _ ⟨⟨_, _, _, _, _, _, rfl⟩, L''⟩)
    · rintro τ S' ⟨⟨v5, v6, v7, v8, v9, v10, rfl⟩, L'⟩
      exact al9 ch r L' q
  split
  · rename_i z
    refine ⟨⟨by decide, by decide⟩, go 8 (by decide) fun _ => ?_⟩
    have z := of_decide_eq_true z
    rw [List.length_map] at z
    omega
  · exact ⟨⟨by decide, by decide⟩, go 0 (by decide) fun z => absurd z (by decide)⟩
end
theorem w_law_are_listed (C : Str → Addr) : bodyW ["hand", "hall", "players", "due", "found", "again", "turn", "u", "v", "g", "behind_v", "many", "is_due"] (t_law_are_listed C) sp_law_are_listed := by
  intro ds S Q E h
  unfold sp_law_are_listed at h
  split at h
  · rename_i a hd pd
    obtain ⟨hh, ps, c, e1, e2, ch, r, H, q⟩ := h
    obtain rfl := deH_some e1
    obtain rfl := deB_some e2
    obtain ⟨s1, s2, s3⟩ := hall_small ch
    show t_law_are_listed C _ _ [some (.ref a), some (eH hh), some (eB ps), none, none, none, none, none, none, none, none, none, none] S
    simp [t_law_are_listed, small_of ch r]
    intro p S1 hp ep le
    simp [t_law_are_listed_19, okd_hall ch, okd_ris r (by omega : hh.length ≤ 1000), chk_ok ch r]
    intro t ht
    simp [t_law_are_listed_18]
    have sz := turnsF_size ch r
    refine ⟨Sm.lst (n := 5) sup_same (sup_old ep ht) (by rw [List.length_map]; exact Nat.le_trans sz (by decide)) (fun x hx => ?_), ?_⟩
    · obtain ⟨w, _, rfl⟩ := List.mem_map.mp hx
      exact (pure_eT w).up (by decide)
    · simp [t_law_are_listed_17, tyIs_ref sup_same]
      refine ⟨by decide, ?_⟩
      rw [pAppend_of sup_same (by rw [List.length_map]; exact Nat.lt_of_le_of_lt sz (by decide)), resW_put, sup_sup]
      have pt : p ≠ t := fun z => by rw [← z, ep] at ht; cases ht
      have na := H.ne_new hp
      exact al16 (S0 := S) ch r ⟨(H.mono le).new ht, (Kp.le le).new (le.none ht), by rw [sup_ne pt]; exact ep, na.1⟩ q
  · exact h.elim
end DL

set_option Elab.async false
set_option linter.all false
set_option maxRecDepth 100000
set_option maxHeartbeats 4000000
namespace DL
open PySem PySem.Spec PyProof.Rows L2
def sp_law_are_odd_ones_right : DSp := fun ds S Q _ => ds = [] ∧ Q (.bl true) S
@[simp] theorem sp_law_odd_eq {S Q E} : sp_law_are_odd_ones_right [] S Q E = Q (.bl true) S := by simp [sp_law_are_odd_ones_right]
def t_law_are_odd_ones_right_1 (C : Str → Addr) : DS := (dRet (dAnd (dCall (sp_law_same 6) (dCons (dCall (sp_turns C) (dCons (dTup (dCons (dTup (dCons (dC (.int 1)) dNil)) (dCons (dTup dNil) dNil))) (dCons (dTup (dCons (dC (.int 0)) (dCons (dC (.int 1)) dNil))) dNil))) (dCons (dLst dNil) dNil))) (dCall (sp_law_same 6) (dCons (dCall (sp_turns C) (dCons (dTup (dCons (dTup (dCons (dC (.int 1)) dNil)) (dCons (dTup (dCons (dC (.int 1)) dNil)) dNil))) (dCons (dTup (dCons (dC (.int 0)) dNil)) dNil))) (dCons (dLst dNil) dNil)))))
def t_law_are_odd_ones_right_2 (C : Str → Addr) : DS := (dSeq (dIfS (dNotT (dTst (dCall (sp_law_same 6) (dCons (dVar 0) (dCons (dLst (dCons (dTup (dCons (dTup (dCons (dC (.int 0)) (dCons (dC (.int 1)) dNil))) (dCons (dTup (dCons (dC (.int 0)) (dCons (dC (.int 1)) dNil))) dNil))) (dCons (dTup (dCons (dTup (dCons (dC (.int 1)) (dCons (dC (.int 1)) dNil))) (dCons (dTup (dCons (dC (.int 0)) (dCons (dC (.int 0)) dNil))) dNil))) (dCons (dTup (dCons (dTup (dCons (dC (.int 1)) (dCons (dC (.int 1)) dNil))) (dCons (dTup (dCons (dC (.int 1)) (dCons (dC (.int 1)) dNil))) dNil))) dNil)))) dNil))))) (dRet (dC (.bl false))) dNext) (t_law_are_odd_ones_right_1 C))
def t_law_are_odd_ones_right_3 (C : Str → Addr) : DS := (dSeq (dAsg (dComp (iVal (dLst (dCons (dTup (dCons (dC (.int 0)) (dCons (dC (.int 1)) (dCons (dC (.int 0)) dNil)))) (dCons (dTup (dCons (dC (.int 0)) (dCons (dC (.int 1)) (dCons (dC (.int 1)) dNil)))) (dCons (dTup (dCons (dC (.int 1)) (dCons (dC (.int 0)) (dCons (dC (.int 1)) dNil)))) dNil))))) (kName 1) dYes (dCall (sp_turned C) (dCons (dTup (dCons (dTup (dCons (dC (.int 1)) (dCons (dC (.int 1)) dNil))) (dCons (dTup (dCons (dC (.int 0)) (dCons (dC (.int 1)) dNil))) dNil))) (dCons (dTup (dCons (dC (.int 0)) (dCons (dC (.int 1)) dNil))) (dCons (dVar 1) dNil)))) [1]) (kName 0)) (t_law_are_odd_ones_right_2 C))
def t_law_are_odd_ones_right (C : Str → Addr) : DS := (dSeq (dIfS (dNotT (dTst (dCall (sp_law_same 6) (dCons (dCall (sp_turns C) (dCons (dTup (dCons (dTup (dCons (dC (.int 1)) (dCons (dC (.int 1)) dNil))) (dCons (dTup (dCons (dC (.int 0)) (dCons (dC (.int 1)) dNil))) dNil))) (dCons (dTup (dCons (dC (.int 0)) (dCons (dC (.int 1)) dNil))) dNil))) (dCons (dLst (dCons (dTup (dCons (dC (.int 0)) (dCons (dC (.int 1)) (dCons (dC (.int 0)) dNil)))) (dCons (dTup (dCons (dC (.int 0)) (dCons (dC (.int 1)) (dCons (dC (.int 1)) dNil)))) (dCons (dTup (dCons (dC (.int 1)) (dCons (dC (.int 0)) (dCons (dC (.int 1)) dNil)))) dNil)))) dNil))))) (dRet (dC (.bl false))) dNext) (t_law_are_odd_ones_right_3 C))
section
variable {C : Str → Addr} {S : SH} {Q : QE} {E : XKD}
theorem turns_at {hd pd : D} {h : List (List Int)} {ps : List Int} (e1 : hd = eH h) (e2 : pd = eB ps) (c : hallB h = true) (r : risB ps h.length = true) (q : ∀ p, S p = none → Q (.ref p) (sup S p (.lst ((turnsF h ps ps).map eT)))) : sp_turns C [hd, pd] S Q E := by
  subst e1 e2
  obtain ⟨s1, s2, s3⟩ := hall_small c
  rw [sp_turns_eq, chk_ok c r]
  exact ⟨okd_hall c, okd_ris r (by omega), q⟩
theorem turned_at {hd pd d : D} {h : List (List Int)} {ps : List Int} {u v g : Int} (e1 : hd = eH h) (e2 : pd = eB ps) (e3 : d = eT (u, v, g)) (c : hallB h = true) (r : risB ps h.length = true) (z : goesB h ps (eT (u, v, g)) = true) (q : Q (eH (bhd h u v g)) S) : sp_turned C [hd, pd, d] S Q E := by
  subst e1 e2 e3
  obtain ⟨s1, s2, s3⟩ := hall_small c
  rw [sp_turned_eq, chk_ok c r, if_pos z]
  exact ⟨okd_hall c, okd_ris r (by omega), okd_eT, u, v, g, rfl, q⟩
theorem same_lst {p p' : Addr} {l l' : List D} (e : S p = some (.lst l)) (e' : S p' = some (.lst l')) (ll : l = l') (z : l.length ≤ sizeLine) (h : ∀ x ∈ l, pureD 5 x) (q : Q (.bl true) S) : sp_law_same 6 [.ref p, .ref p'] S Q E :=
  ⟨Sm.lst (n := 5) e (by rw [ll]; exact e') z h, q⟩
end
theorem w_law_odd (C : Str → Addr) : bodyW ["found", "turn"] (t_law_are_odd_ones_right C) sp_law_are_odd_ones_right := by
  intro ds S Q E h
  obtain ⟨rfl, q⟩ := h
  show t_law_are_odd_ones_right C _ _ [none, none] S
  simp only [t_law_are_odd_ones_right, dSeq_eq, dIfS_eq, dNotT_eq, dTst_eq, dCall_eq, dCons_eq, dTup_eq, dC_eq, dNil_eq, dLst_eq]
  have pl : ∀ {l : List (Int × Int × Int)}, ∀ x ∈ l.map eT, pureD 5 x := fun {l} x hx => by
    obtain ⟨w, _, rfl⟩ := List.mem_map.mp hx
    exact (pure_eT w).up (by decide)
  refine ⟨by decide, by decide, by decide, by decide, turns_at (h := [[1, 1], [0, 1]]) (ps := [0, 1]) rfl rfl (by decide) (by decide) fun p hp => ⟨by decide, by decide, by decide, by decide, fun p2 hp2 => same_lst (sup_old sup_same hp2) sup_same rfl (by decide) pl ?_⟩⟩
  simp only [isB_bl, Bool.not_true, Bool.false_eq_true, if_false, dNext_eq]
  generalize hS1 : sup (sup S p _) p2 _ = S1
  have le1 : SLe S S1 := by rw [← hS1]; exact (SLe.new hp).trans (SLe.new hp2)
  simp only [t_law_are_odd_ones_right_3, dSeq_eq, dAsg_eq, dComp_eq, iVal_eq, dLst_eq, dCons_eq, dTup_eq, dC_eq, dNil_eq]
  refine ⟨by decide, by decide, by decide, by decide, fun p3 hp3 => ?_⟩
  rw [srcOf_ref sup_same]
  intro p4 hp4
  refine comp_map [((0 : Int), (1 : Int), (0 : Int)), (0, 1, 1), (1, 0, 1)] eT (fun q => eH (bhd [[1, 1], [0, 1]] q.1 q.2.1 q.2.2)) hp4 (len_small (by simp)) (fun i S' _ le => by simp only [srcLst, le _ _ sup_same]; rfl) (fun x S' hx le R hR => ?_) ?_
  · simp only [kName_eq, wipeD, List.set_cons_succ, List.set_cons_zero, dCall_eq, dCons_eq, dTup_eq, dC_eq, dNil_eq, dVar_eq, List.getElem?_cons_succ, List.getElem?_cons_zero]
    refine ⟨by decide, by decide, by decide, by decide, turned_at (h := [[1, 1], [0, 1]]) (ps := [0, 1]) rfl rfl rfl (by decide) (by decide) ?_ (hR _ SLe.rfl)⟩
    simp at hx
    rcases hx with rfl | rfl | rfl <;> rfl
  · simp only [kName_eq, wipeD, List.set_cons_succ, List.set_cons_zero]
    generalize hS2 : sup (sup S1 p3 _) p4 _ = S2
    have le2 : SLe S S2 := by rw [← hS2]; exact le1.trans ((SLe.new hp3).trans (SLe.new hp4))
    have e4 : S2 p4 = some (.lst ([((0 : Int), (1 : Int), (0 : Int)), (0, 1, 1), (1, 0, 1)].map fun q => eH (bhd [[1, 1], [0, 1]] q.1 q.2.1 q.2.2))) := by rw [← hS2]; exact sup_same
    simp only [t_law_are_odd_ones_right_2, dSeq_eq, dIfS_eq, dNotT_eq, dTst_eq, dCall_eq, dCons_eq, dVar_eq, List.getElem?_cons_zero, dLst_eq, dTup_eq, dC_eq, dNil_eq]
    refine ⟨by decide, by decide, by decide, by decide, by decide, by decide, by decide, by decide, by decide, by decide, fun p5 hp5 => same_lst (sup_old e4 hp5) sup_same rfl (by decide) (fun x hx => ?_) ?_⟩
    · obtain ⟨w, hw, rfl⟩ := List.mem_map.mp hx
      refine (pure_eH ?_).up (by decide)
      simp at hw
      rcases hw with rfl | rfl | rfl <;> rfl
    · simp only [isB_bl, Bool.not_true, Bool.false_eq_true, if_false, dNext_eq]
      generalize hS3 : sup S2 p5 _ = S3
      have le3 : SLe S S3 := by rw [← hS3]; exact le2.trans (SLe.new hp5)
      simp only [t_law_are_odd_ones_right_1, dRet_eq, dAnd_eq, dCall_eq, dCons_eq, dLst_eq, dTup_eq, dC_eq, dNil_eq]
      refine ⟨by decide, by decide, by decide, by decide, turns_at (h := [[1], []]) (ps := [0, 1]) rfl rfl (by decide) (by decide) fun p6 hp6 => ⟨by decide, fun p7 hp7 => same_lst (sup_old sup_same hp7) sup_same rfl (by decide) pl ?_⟩⟩
      simp only [isB_bl, if_true]
      refine ⟨by decide, by decide, by decide, by decide, turns_at (h := [[1], [1]]) (ps := [0]) rfl rfl (by decide) (by decide) fun p8 hp8 => ⟨by decide, fun p9 hp9 => same_lst (sup_old sup_same hp9) sup_same rfl (by decide) pl ?_⟩⟩
      exact ⟨S, le3.trans ((SLe.new hp6).trans ((SLe.new hp7).trans ((SLe.new hp8).trans (SLe.new hp9)))), q⟩
end DL

set_option Elab.async false
set_option linter.all false
set_option maxRecDepth 100000
set_option maxHeartbeats 4000000
namespace DL
open PySem PySem.Spec PyProof.Rows L2
def sp_law : DSp := fun ds S Q _ => (∃ ns : List Int, ds = [.fro (ns.map D.int)]) ∧ ∀ S', Q (.bl true) S'
def t_law_1 (C : Str → Addr) : DS := (dRet (dBin (pEq false) (dCB pLen (dCons (dCall (sp_turns C) (dCons (dVar 5) (dCons (dTupRg (rg1 (dC (.int 12)))) dNil))) dNil)) (dBin pMul (dBin pMul (dC (.int 12)) (dC (.int 11))) (dC (.int 12)))))
def t_law_2 (C : Str → Addr) : DS := (dSeq (dAsg (dCB pTuple (dCons (dComp (iRng1 (dC (.int 12))) (kName 7) dYes (dCB pTuple (dCons (dCB pSorted (dCons (dComp (iRng1 (dC (.int 12))) (kName 6) dYes (dBin pMod (dCB pInt (dCons (dBin pAdd (dBin pAdd (dVar 7) (dC (.int 1))) (dVar 6)) dNil)) (dC (.int 12))) [6]) dNil)) dNil)) [7]) dNil)) (kName 5)) (t_law_1 C))
def t_law_3 (C : Str → Addr) : DS := (dIfS (dNotT (dTst (dCall sp_law_are_listed (dCons (dVar 1) (dCons (dVar 3) (dCons (dVar 4) dNil)))))) (dRet (dC (.bl false))) dNext)
def t_law_4 (C : Str → Addr) : DS := (dSeq (dAsg (dCall sp_law_hall (dCons (dVar 1) (dCons (dCall sp_law_any (dCons (dVar 1) (dCons (dLst (dCons (dC (.int 2)) (dCons (dC (.int 4)) (dCons (dC (.int 8)) (dCons (dC (.int 12)) dNil))))) dNil))) (dCons (dCall sp_law_any (dCons (dVar 1) (dCons (dLst (dCons (dC (.int 2)) (dCons (dC (.int 5)) (dCons (dC (.int 16)) dNil)))) dNil))) dNil)))) (kTup 2 (kCons (kName 3) (kCons (kName 4) kNil)))) (t_law_3 C))
def t_law_5 (C : Str → Addr) : DS := (dSeq (dFor (iRng1 (dC (.int 3))) (kName 2) (t_law_4 C)) (t_law_2 C))
def t_law_6 (C : Str → Addr) : DS := (dSeq (dIfS (dNotT (dTst (dCall sp_law_are_odd_ones_right dNil))) (dRet (dC (.bl false))) dNext) (t_law_5 C))
def t_law (C : Str → Addr) : DS := (dSeq (dAsg (dCall sp_law_hand (dCons (dVar 0) dNil)) (kName 1)) (t_law_6 C))
def fullB (p : Int) : List Int := sortI ((List.range 12).map fun (i : Nat) => (p + 1 + (0 + (i : Int))) % 12)
def fullH : List (List Int) := (List.range 12).map fun (i : Nat) => fullB (0 + (i : Int))
theorem full_ok : hallB fullH = true := by decide +kernel
theorem full_len : (turnsF fullH (rng 12) (rng 12)).length = 1584 := by decide +kernel
section
variable {C : Str → Addr} {S S0 : SH} {a c : Addr} {Q : QE} {E : EK} {nx : SDl → SH → Prop} {v2 v3 v4 v5 v6 v7 : Option D} {vs : D}
theorem law2 (q : ∀ S', Q (.bl true) S') : t_law_2 C E { nx := nx, rt := Q } [some vs, some (.ref a), v2, v3, v4, v5, v6, v7] S := by
  simp only [t_law_2, dSeq_eq, dAsg_eq, dCB_eq, dCons_eq, dComp_eq, iRng1_eq, dC_eq, dNil_eq]
  refine ⟨⟨by decide, by decide⟩, fun p hp => ?_⟩
  refine comp_map (List.range 12) (fun (i : Nat) => D.int (0 + (i : Int))) (fun (i : Nat) => eB (fullB (0 + (i : Int)))) hp (len_small (by simp)) (fun i S' _ _ => rng_src) (fun x S' hx le R hR => ?_) ?_
  · simp only [kName_eq, wipeD, List.set_cons_succ, List.set_cons_zero, dCB_eq, dCons_eq, dComp_eq, iRng1_eq, dC_eq, dNil_eq]
    refine ⟨⟨by decide, by decide⟩, fun r hr => ?_⟩
    refine comp_map (List.range 12) (fun (i : Nat) => D.int (0 + (i : Int))) (fun (i : Nat) => D.int ((0 + (x : Int) + 1 + (0 + (i : Int))) % 12)) hr (len_small (by simp)) (fun i S' _ _ => rng_src) (fun y S'' hy le' R' hR' => ?_) ?_
    · simp only [kName_eq, wipeD, List.set_cons_succ, List.set_cons_zero, dBin_eq, dCB_eq, dCons_eq, dVar_eq, List.getElem?_cons_succ, List.getElem?_cons_zero, dC_eq, dNil_eq, pAdd_int, resW_val, pInt_int]
      rw [pMod_int (by omega), resW_val]
      exact hR' _ SLe.rfl
    · rw [show ((List.range 12).map fun (i : Nat) => D.int ((0 + (x : Int) + 1 + (0 + (i : Int))) % 12)) = ((List.range 12).map fun (i : Nat) => (0 + (x : Int) + 1 + (0 + (i : Int))) % 12).map D.int from by rw [List.map_map]; rfl]
      rw [pSorted_ref sup_same, resW_new]
      intro t ht
      rw [pTuple_ref sup_same, resW_val]
      exact hR _ ((SLe.new hr).trans (SLe.new ht))
  · rw [pTuple_ref sup_same, resW_val]
    rw [show D.tup ((List.range 12).map fun (i : Nat) => eB (fullB (0 + (i : Int)))) = eH fullH from by unfold eH fullH; rw [List.map_map]; rfl]
    simp only [kName_eq, List.set_cons_succ, List.set_cons_zero, t_law_1, dRet_eq, dBin_eq, dCB_eq, dCons_eq, dCall_eq, dVar_eq, List.getElem?_cons_succ, List.getElem?_cons_zero, dTupRg_eq, rg1_eq, dC_eq, dNil_eq]
    refine ⟨⟨⟨by decide, by decide⟩, ⟨by decide, by decide⟩, by decide⟩, ?_⟩
    refine turns_at (h := fullH) (ps := rng 12) rfl (congrArg D.tup (rgD_rng (n := 12) (by decide))) full_ok (by decide +kernel) fun t ht => ?_
    rw [pLen_ref sup_same, resW_val, List.length_map, full_len, pMul_int (.inl (by decide)), resW_val, pMul_int (.inl (by decide)), resW_val, pEq_int, resW_val]
    exact wk.of (q _)
theorem law4 (H : Hand S a c) (q : ∀ S' v3 v4, Hand S' a c → DEnds.nx { nx := nx, rt := Q } [some vs, some (.ref a), v2, v3, v4, v5, v6, v7] S') {bk ct : SDl → SH → Prop} :
    t_law_4 C E { nx := nx, rt := Q, bk := bk, ct := ct } [some vs, some (.ref a), v2, v3, v4, v5, v6, v7] S := by
  simp only [t_law_4, dSeq_eq, dAsg_eq, dCall_eq, dCons_eq, dVar_eq, List.getElem?_cons_succ, List.getElem?_cons_zero, dLst_eq, dC_eq, dNil_eq, sp_law_any_eq]
  refine ⟨by decide, fun p hp => ⟨fun z => (H.ne_new hp).1 (by cases z; rfl), _, c, items_ref sup_same, by decide, by decide, H.new hp, fun d S1 hd H1 k1 => ⟨by decide, fun p2 hp2 => ⟨fun z => (H1.ne_new hp2).1 (by cases z; rfl), _, c, items_ref sup_same, by decide, by decide, H1.new hp2, fun d2 S2 hd2 H2 k2 => ?_⟩⟩⟩⟩
  obtain ⟨mp, rfl, m1, m2⟩ : ∃ mp : Int, d = .int mp ∧ 1 ≤ mp ∧ mp ≤ 12 := by
    simp at hd
    rcases hd with rfl | rfl | rfl | rfl <;> exact ⟨_, rfl, by decide, by decide⟩
  obtain ⟨mc, rfl, c1, c2⟩ : ∃ mc : Int, d2 = .int mc ∧ 1 ≤ mc ∧ mc ≤ 16 := by
    simp at hd2
    rcases hd2 with rfl | rfl | rfl <;> exact ⟨_, rfl, by decide, by decide⟩
  refine ⟨m1, m2, c1, c2, c, H2, fun p3 hall ps S3 hp3 e3 ch r _ _ H3 k3 => ?_⟩
  simp only [kTup_eq, items_ref e3, kCons_eq, kName_eq, kNil_eq, List.set_cons_succ, List.set_cons_zero]
  refine ⟨rfl, ?_⟩
  simp only [t_law_3, dIfS_eq, dNotT_eq, dTst_eq, dCall_eq, dCons_eq, dVar_eq, List.getElem?_cons_succ, List.getElem?_cons_zero, dNil_eq]
  refine ⟨hall, ps, c, deH_eH, deB_eB, ch, r, H3, fun S4 H4 k4 => ?_⟩
  simp only [isB_bl, Bool.not_true, Bool.false_eq_true, if_false, dNext_eq]
  exact q S4 _ _ H4
end
theorem w_law (C : Str → Addr) : bodyW ["script", "hand", "turn", "hall", "players", "full", "card", "person"] (t_law C) sp_law := by
  intro ds S Q E h
  obtain ⟨⟨ns, rfl⟩, q⟩ := h
  show t_law C _ _ [some (.fro (ns.map D.int)), none, none, none, none, none, none, none] S
  simp only [t_law, dSeq_eq, dAsg_eq, dCall_eq, dCons_eq, dVar_eq, List.getElem?_cons_zero, dNil_eq]
  refine ⟨ns, rfl, fun a c S1 ha H le => ?_⟩
  simp only [kName_eq, List.set_cons_succ, List.set_cons_zero, t_law_6, dSeq_eq, dIfS_eq, dNotT_eq, dTst_eq, dCall_eq, dNil_eq, sp_law_odd_eq, isB_bl, Bool.not_true, Bool.false_eq_true, if_false, dNext_eq]
  simp only [t_law_5, dSeq_eq, dFor_eq, iRng1_eq, dC_eq]
  refine ⟨⟨by decide, by decide⟩, ?_⟩
  refine for_inv ((List.range 3).map fun (i : Nat) => D.int (0 + (i : Int))) (fun i τ S' => (∃ v2 v3 v4, τ = [some (.fro (ns.map D.int)), some (.ref a), v2, v3, v4, none, none, none]) ∧ Hand S' a c) ⟨⟨_, _, _, rfl⟩, H⟩ (fun i τ S' _ _ => rng_src) ?_ ?_
  · rintro i d τ S' hd ⟨⟨v2, v3, v4, rfl⟩, H'⟩ P hP
    simp only [kName_eq, List.set_cons_succ, List.set_cons_zero]
    exact law4 H' fun S'' v3 v4 H'' => wk.of (hP _ _ ⟨⟨_, _, _, rfl⟩, H''⟩)
  · rintro τ S' ⟨⟨v2, v3, v4, rfl⟩, H'⟩
    exact law2 q
end DL

set_option Elab.async false
set_option linter.all false
set_option maxRecDepth 100000
set_option maxHeartbeats 0
namespace Asm
open PySem PySem.Spec PyProof.Rows L2 DL
def top (i : Nat) : Stmt := PySem.Challenge.pw_cardturns_k06_whole_turns_listed.main.body.getD i (.Pass ⟨0, 0, 0, 0⟩)
def fn : List He.DefD := [⟨("is_integer", none), "is_integer", "is_integer", defArgs (top 1), defBody (top 1), defScope (top 1), [], []⟩,
  ⟨("is_within", none), "is_within", "is_within", defArgs (top 2), defBody (top 2), defScope (top 2), [], []⟩,
  ⟨("is_row_of", none), "is_row_of", "is_row_of", defArgs (top 3), defBody (top 3), defScope (top 3), [], []⟩,
  ⟨("is_bag", none), "is_bag", "is_bag", defArgs (top 4), defBody (top 4), defScope (top 4), [], []⟩,
  ⟨("is_rising", none), "is_rising", "is_rising", defArgs (top 5), defBody (top 5), defScope (top 5), [], []⟩,
  ⟨("less", none), "less", "less", defArgs (top 6), defBody (top 6), defScope (top 6), [], []⟩,
  ⟨("is_book", none), "is_book", "is_book", defArgs (top 15), defBody (top 15), defScope (top 15), [], []⟩,
  ⟨("is_hall", none), "is_hall", "is_hall", defArgs (top 16), defBody (top 16), defScope (top 16), [], []⟩,
  ⟨("check_hall", none), "check_hall", "check_hall", defArgs (top 17), defBody (top 17), defScope (top 17), [], []⟩,
  ⟨("check_players", none), "check_players", "check_players", defArgs (top 18), defBody (top 18), defScope (top 18), [], []⟩,
  ⟨("is_person", none), "is_person", "is_person", defArgs (top 19), defBody (top 19), defScope (top 19), [], []⟩,
  ⟨("exchanged", none), "exchanged", "exchanged", defArgs (top 21), defBody (top 21), defScope (top 21), [], []⟩,
  ⟨("goes", none), "goes", "goes", defArgs (top 22), defBody (top 22), defScope (top 22), [], []⟩,
  ⟨("behind", none), "behind", "behind", defArgs (top 23), defBody (top 23), defScope (top 23), [], []⟩,
  ⟨("is_turn", none), "is_turn", "is_turn", defArgs (top 24), defBody (top 24), defScope (top 24), [], []⟩,
  ⟨("turned", none), "turned", "turned", defArgs (top 25), defBody (top 25), defScope (top 25), [], []⟩,
  ⟨("all_going", none), "all_going", "all_going", defArgs (top 26), defBody (top 26), defScope (top 26), [], []⟩,
  ⟨("turns", none), "turns", "turns", defArgs (top 27), defBody (top 27), defScope (top 27), [], []⟩,
  ⟨("_law_hand", none), "_law_hand", "_law_hand", defArgs (top 29), defBody (top 29), defScope (top 29), [], []⟩,
  ⟨("_law_draw", none), "_law_draw", "_law_draw", defArgs (top 30), defBody (top 30), defScope (top 30), [], []⟩,
  ⟨("_law_any", none), "_law_any", "_law_any", defArgs (top 31), defBody (top 31), defScope (top 31), [], []⟩,
  ⟨("_law_mixed", none), "_law_mixed", "_law_mixed", defArgs (top 32), defBody (top 32), defScope (top 32), [], []⟩,
  ⟨("_law_some", none), "_law_some", "_law_some", defArgs (top 33), defBody (top 33), defScope (top 33), [], []⟩,
  ⟨("_law_same", none), "_law_same", "_law_same", defArgs (top 34), defBody (top 34), defScope (top 34), [], []⟩,
  ⟨("_law_hall", none), "_law_hall", "_law_hall", defArgs (top 35), defBody (top 35), defScope (top 35), [], []⟩,
  ⟨("_law_turns", none), "_law_turns", "_law_turns", defArgs (top 36), defBody (top 36), defScope (top 36), [], []⟩,
  ⟨("_law_behind", none), "_law_behind", "_law_behind", defArgs (top 37), defBody (top 37), defScope (top 37), [], []⟩,
  ⟨("_law_told", none), "_law_told", "_law_told", defArgs (top 38), defBody (top 38), defScope (top 38), [], []⟩,
  ⟨("_law_are_listed", none), "_law_are_listed", "_law_are_listed", defArgs (top 39), defBody (top 39), defScope (top 39), [], []⟩,
  ⟨("_law_are_odd_ones_right", none), "_law_are_odd_ones_right", "_law_are_odd_ones_right", defArgs (top 40), defBody (top 40), defScope (top 40), [], []⟩,
  ⟨("law", none), "law", "law", defArgs (top 41), defBody (top 41), defScope (top 41), [], []⟩]
def fa : List He.Fa := [.glo "is_integer", .glo "is_within", .glo "is_row_of", .glo "is_bag", .glo "is_rising", .glo "less", .glo "CardFault", .glo "BadHall", .glo "BadPlayers", .glo "BadTurn", .glo "is_book", .glo "is_hall", .glo "check_hall", .glo "check_players", .glo "is_person", .glo "exchanged", .glo "goes", .glo "behind", .glo "is_turn", .glo "turned", .glo "all_going", .glo "turns", .glo "_law_hand", .glo "_law_draw", .glo "_law_any", .glo "_law_mixed", .glo "_law_some", .glo "_law_same", .glo "_law_hall", .glo "_law_turns", .glo "_law_behind", .glo "_law_told", .glo "_law_are_listed", .glo "_law_are_odd_ones_right", .glo "law", .exc "CardFault", .exc "BadHall", .exc "BadPlayers", .exc "BadTurn", .int "MOST_PERSONS" 12, .int "MOST_CARDS" 16, .free "ValueError", .free "abs", .free "all", .free "bool", .free "int", .free "isinstance", .free "len", .free "list", .free "range", .free "set", .free "sorted", .free "str", .free "tuple", .free "zip", .exm "BadTurn" "BadTurn" true, .exm "BadTurn" "CardFault" true]
def free : List Str := ["ValueError", "abs", "all", "bool", "int", "isinstance", "len", "list", "range", "set", "sorted", "str", "tuple", "zip"]
def consts : List (Str × D) := [("MOST_PERSONS", (.int 12)), ("MOST_CARDS", (.int 16))]
def excs (K : PySem.W.Frag) : List (Str × Addr) := [("CardFault", He.ga K "CardFault"), ("BadHall", He.ga K "BadHall"), ("BadPlayers", He.ga K "BadPlayers"), ("BadTurn", He.ga K "BadTurn")]
def exn : List Str := ["CardFault", "BadHall", "BadPlayers", "BadTurn"]
abbrev R : PySem.W.OpenRow := PySem.W.OpenLaw.row PySem.Challenge.rw_cardturns_k06_whole_turns_listed
abbrev hk : PySem.W.Hook := hookM 4 fa fn (exB exn)
def ob (s : PySem.W.SharedT) : He.AlD × Bool := obsMG 4 fa fn (exB exn) (HandSHeadRun.getT s)
theorem ob_eq (s : PySem.W.SharedT) : ob s = hk.obs s.abs := obsMG_eq (HandSHeadRun.getT_eq s)
def loose0 : List PySem.Str := ["is_integer", "is_within", "is_row_of", "is_bag", "is_rising", "less", "CardFault", "BadHall", "BadPlayers", "BadTurn", "is_book", "is_hall", "check_hall", "check_players", "is_person", "exchanged", "goes", "behind", "is_turn", "turned", "all_going", "turns", "_law_hand", "_law_draw", "_law_any", "_law_mixed", "_law_some", "_law_same", "_law_hall", "_law_turns"]
def loose1 : List PySem.Str := ["_law_behind", "_law_told", "_law_are_listed", "_law_are_odd_ones_right", "MOST_PERSONS", "MOST_CARDS"]
def loose : List PySem.Str := loose0 ++ loose1
theorem run (w : World) : HandSHeadRun.RunEq R (PySem.W.view R.prog [41]) hk ob 3000 loose w := by
  intro os
  kernel_rfl
section
variable {P : Program} {w : World} {K : PySem.W.Frag} {mg : Str → Option Value} {base : Heap} {fd : FuncData}
theorem ln_is_integer : cSs 60 ⟨["thing"], defScope (top 1), fun _ => true, [], free, consts, excs K, true, true, none, PySem.W.kitOne K, PySem.W.exmOne K⟩ (defBody (top 1)) = t_is_integer := by kernel_rfl
theorem ok_is_integer (W : Wo K mg free consts (excs K))  (F : FunD K "is_integer" "is_integer" (defArgs (top 1)) (defBody (top 1)) (defScope (top 1)) [] [] (He.ga K "is_integer") fd) (hm : mg "is_integer" = some (.ref (He.ga K "is_integer"))) : FnAt P w K mg base 1 "is_integer" (sp_is_integer) := def_ok (k := 0) F hm W (by exact ⟨rfl, rfl, rfl, by decide +kernel, rfl, by decide +kernel, by decide +kernel⟩) (F.bindsN (ps := ["thing"]) fun _ _ _ _ _ _ us hl => match us, hl with | [_], _ => rfl) Fns.nil (by intro ds S Q E h; first | (unfold sp_is_integer at h; split at h <;> first | rfl | exact h.elim) | (rw [h.1]; rfl) | (obtain ⟨⟨ns, rfl⟩, _⟩ := h; rfl)) ln_is_integer (w_is_integer)
theorem ln_less : cSs 60 ⟨["bag", "some", "left", "one"], defScope (top 6), fun _ => true, [], free, consts, excs K, true, true, none, PySem.W.kitOne K, PySem.W.exmOne K⟩ (defBody (top 6)) = t_less := by kernel_rfl
theorem ok_less (W : Wo K mg free consts (excs K))  (F : FunD K "less" "less" (defArgs (top 6)) (defBody (top 6)) (defScope (top 6)) [] [] (He.ga K "less") fd) (hm : mg "less" = some (.ref (He.ga K "less"))) : FnAt P w K mg base 1 "less" (sp_less) := def_ok (k := 0) F hm W (by exact ⟨rfl, rfl, rfl, by decide +kernel, rfl, by decide +kernel, by decide +kernel⟩) (F.bindsN (ps := ["bag", "some"]) fun _ _ _ _ _ _ us hl => match us, hl with | [_, _], _ => rfl) Fns.nil (by intro ds S Q E h; first | (unfold sp_less at h; split at h <;> first | rfl | exact h.elim) | (rw [h.1]; rfl) | (obtain ⟨⟨ns, rfl⟩, _⟩ := h; rfl)) ln_less (w_less)
theorem ln_all_going : cSs 60 ⟨["hall", "players", "found", "u", "v", "g"], defScope (top 26), fun _ => true, [], free, consts, excs K, true, true, none, PySem.W.kitOne K, PySem.W.exmOne K⟩ (defBody (top 26)) = t_all_going := by kernel_rfl
theorem ok_all_going (W : Wo K mg free consts (excs K))  (F : FunD K "all_going" "all_going" (defArgs (top 26)) (defBody (top 26)) (defScope (top 26)) [] [] (He.ga K "all_going") fd) (hm : mg "all_going" = some (.ref (He.ga K "all_going"))) : FnAt P w K mg base 1 "all_going" (sp_all_going) := def_ok (k := 0) F hm W (by exact ⟨rfl, rfl, rfl, by decide +kernel, rfl, by decide +kernel, by decide +kernel⟩) (F.bindsN (ps := ["hall", "players"]) fun _ _ _ _ _ _ us hl => match us, hl with | [_, _], _ => rfl) Fns.nil (by intro ds S Q E h; first | (unfold sp_all_going at h; split at h <;> first | rfl | exact h.elim) | (rw [h.1]; rfl) | (obtain ⟨⟨ns, rfl⟩, _⟩ := h; rfl)) ln_all_going (w_all_going)
theorem ln_law_hand : cSs 60 ⟨["script", "cells", "cell"], defScope (top 29), fun _ => true, [], free, consts, excs K, true, true, none, PySem.W.kitOne K, PySem.W.exmOne K⟩ (defBody (top 29)) = t_law_hand := by kernel_rfl
theorem ok_law_hand (W : Wo K mg free consts (excs K))  (F : FunD K "_law_hand" "_law_hand" (defArgs (top 29)) (defBody (top 29)) (defScope (top 29)) [] [] (He.ga K "_law_hand") fd) (hm : mg "_law_hand" = some (.ref (He.ga K "_law_hand"))) : FnAt P w K mg base 1 "_law_hand" (sp_law_hand) := def_ok (k := 0) F hm W (by exact ⟨rfl, rfl, rfl, by decide +kernel, rfl, by decide +kernel, by decide +kernel⟩) (F.bindsN (ps := ["script"]) fun _ _ _ _ _ _ us hl => match us, hl with | [_], _ => rfl) Fns.nil (by intro ds S Q E h; first | (unfold sp_law_hand at h; split at h <;> first | rfl | exact h.elim) | (rw [h.1]; rfl) | (obtain ⟨⟨ns, rfl⟩, _⟩ := h; rfl)) ln_law_hand (w_law_hand)
theorem ln_law_draw : cSs 60 ⟨["hand", "many", "cell", "digit", "number"], defScope (top 30), fun _ => true, [], free, consts, excs K, true, true, none, PySem.W.kitOne K, PySem.W.exmOne K⟩ (defBody (top 30)) = t_law_draw := by kernel_rfl
theorem ok_law_draw (W : Wo K mg free consts (excs K))  (F : FunD K "_law_draw" "_law_draw" (defArgs (top 30)) (defBody (top 30)) (defScope (top 30)) [] [] (He.ga K "_law_draw") fd) (hm : mg "_law_draw" = some (.ref (He.ga K "_law_draw"))) : FnAt P w K mg base 1 "_law_draw" (sp_law_draw) := def_ok (k := 0) F hm W (by exact ⟨rfl, rfl, rfl, by decide +kernel, rfl, by decide +kernel, by decide +kernel⟩) (F.bindsN (ps := ["hand", "many"]) fun _ _ _ _ _ _ us hl => match us, hl with | [_, _], _ => rfl) Fns.nil (by intro ds S Q E h; first | (unfold sp_law_draw at h; split at h <;> first | rfl | exact h.elim) | (rw [h.1]; rfl) | (obtain ⟨⟨ns, rfl⟩, _⟩ := h; rfl)) ln_law_draw (w_law_draw)
theorem ln_law_turns : cSs 60 ⟨["hall", "players", "found", "u", "v", "g"], defScope (top 36), fun _ => true, [], free, consts, excs K, true, true, none, PySem.W.kitOne K, PySem.W.exmOne K⟩ (defBody (top 36)) = t_law_turns := by kernel_rfl
theorem ok_law_turns (W : Wo K mg free consts (excs K))  (F : FunD K "_law_turns" "_law_turns" (defArgs (top 36)) (defBody (top 36)) (defScope (top 36)) [] [] (He.ga K "_law_turns") fd) (hm : mg "_law_turns" = some (.ref (He.ga K "_law_turns"))) : FnAt P w K mg base 1 "_law_turns" (sp_law_turns) := def_ok (k := 0) F hm W (by exact ⟨rfl, rfl, rfl, by decide +kernel, rfl, by decide +kernel, by decide +kernel⟩) (F.bindsN (ps := ["hall", "players"]) fun _ _ _ _ _ _ us hl => match us, hl with | [_, _], _ => rfl) Fns.nil (by intro ds S Q E h; first | (unfold sp_law_turns at h; split at h <;> first | rfl | exact h.elim) | (rw [h.1]; rfl) | (obtain ⟨⟨ns, rfl⟩, _⟩ := h; rfl)) ln_law_turns (w_law_turns)
theorem ln_law_behind : cSs 60 ⟨["hall", "turn", "u", "v", "g", "bags", "bag"], defScope (top 37), fun _ => true, [], free, consts, excs K, true, true, none, PySem.W.kitOne K, PySem.W.exmOne K⟩ (defBody (top 37)) = t_law_behind := by kernel_rfl
theorem ok_law_behind (W : Wo K mg free consts (excs K))  (F : FunD K "_law_behind" "_law_behind" (defArgs (top 37)) (defBody (top 37)) (defScope (top 37)) [] [] (He.ga K "_law_behind") fd) (hm : mg "_law_behind" = some (.ref (He.ga K "_law_behind"))) : FnAt P w K mg base 1 "_law_behind" (sp_law_behind) := def_ok (k := 0) F hm W (by exact ⟨rfl, rfl, rfl, by decide +kernel, rfl, by decide +kernel, by decide +kernel⟩) (F.bindsN (ps := ["hall", "turn"]) fun _ _ _ _ _ _ us hl => match us, hl with | [_, _], _ => rfl) Fns.nil (by intro ds S Q E h; first | (unfold sp_law_behind at h; split at h <;> first | rfl | exact h.elim) | (rw [h.1]; rfl) | (obtain ⟨⟨ns, rfl⟩, _⟩ := h; rfl)) ln_law_behind (w_law_behind)
theorem ln_is_within : cSs 60 ⟨["thing", "low", "high"], defScope (top 2), fun _ => true, [("is_integer", (sp_is_integer))], free, consts, excs K, true, true, none, PySem.W.kitOne K, PySem.W.exmOne K⟩ (defBody (top 2)) = t_is_within := by kernel_rfl
theorem ok_is_within (W : Wo K mg free consts (excs K)) (h_is_integer : FnAt P w K mg base 1 "is_integer" (sp_is_integer)) (F : FunD K "is_within" "is_within" (defArgs (top 2)) (defBody (top 2)) (defScope (top 2)) [] [] (He.ga K "is_within") fd) (hm : mg "is_within" = some (.ref (He.ga K "is_within"))) : FnAt P w K mg base 2 "is_within" (sp_is_within) := def_ok (k := 1) F hm W (by exact ⟨rfl, rfl, rfl, by decide +kernel, rfl, by decide +kernel, by decide +kernel⟩) (F.bindsN (ps := ["thing", "low", "high"]) fun _ _ _ _ _ _ us hl => match us, hl with | [_, _, _], _ => rfl) (Fns.cons h_is_integer (by decide) Fns.nil) (by intro ds S Q E h; first | (unfold sp_is_within at h; split at h <;> first | rfl | exact h.elim) | (rw [h.1]; rfl) | (obtain ⟨⟨ns, rfl⟩, _⟩ := h; rfl)) ln_is_within (w_is_within)
theorem ln_is_row_of : cSs 60 ⟨["thing", "many", "one"], defScope (top 3), fun _ => true, [("is_integer", (sp_is_integer))], free, consts, excs K, true, true, none, PySem.W.kitOne K, PySem.W.exmOne K⟩ (defBody (top 3)) = t_is_row_of := by kernel_rfl
theorem ok_is_row_of (W : Wo K mg free consts (excs K)) (h_is_integer : FnAt P w K mg base 1 "is_integer" (sp_is_integer)) (F : FunD K "is_row_of" "is_row_of" (defArgs (top 3)) (defBody (top 3)) (defScope (top 3)) [] [] (He.ga K "is_row_of") fd) (hm : mg "is_row_of" = some (.ref (He.ga K "is_row_of"))) : FnAt P w K mg base 2 "is_row_of" (sp_is_row_of) := def_ok (k := 1) F hm W (by exact ⟨rfl, rfl, rfl, by decide +kernel, rfl, by decide +kernel, by decide +kernel⟩) (F.bindsN (ps := ["thing", "many"]) fun _ _ _ _ _ _ us hl => match us, hl with | [_, _], _ => rfl) (Fns.cons h_is_integer (by decide) Fns.nil) (by intro ds S Q E h; first | (unfold sp_is_row_of at h; split at h <;> first | rfl | exact h.elim) | (rw [h.1]; rfl) | (obtain ⟨⟨ns, rfl⟩, _⟩ := h; rfl)) ln_is_row_of (w_is_row_of)
theorem ln_exchanged : cSs 60 ⟨["cards", "out", "gain"], defScope (top 21), fun _ => true, [("less", (sp_less))], free, consts, excs K, true, true, none, PySem.W.kitOne K, PySem.W.exmOne K⟩ (defBody (top 21)) = t_exchanged := by kernel_rfl
theorem ok_exchanged (W : Wo K mg free consts (excs K)) (h_less : FnAt P w K mg base 1 "less" (sp_less)) (F : FunD K "exchanged" "exchanged" (defArgs (top 21)) (defBody (top 21)) (defScope (top 21)) [] [] (He.ga K "exchanged") fd) (hm : mg "exchanged" = some (.ref (He.ga K "exchanged"))) : FnAt P w K mg base 2 "exchanged" (sp_exchanged) := def_ok (k := 1) F hm W (by exact ⟨rfl, rfl, rfl, by decide +kernel, rfl, by decide +kernel, by decide +kernel⟩) (F.bindsN (ps := ["cards", "out", "gain"]) fun _ _ _ _ _ _ us hl => match us, hl with | [_, _, _], _ => rfl) (Fns.cons h_less (by decide) Fns.nil) (by intro ds S Q E h; first | (unfold sp_exchanged at h; split at h <;> first | rfl | exact h.elim) | (rw [h.1]; rfl) | (obtain ⟨⟨ns, rfl⟩, _⟩ := h; rfl)) ln_exchanged (w_exchanged)
theorem ln_law_any : cSs 60 ⟨["hand", "some"], defScope (top 31), fun _ => true, [("_law_draw", (sp_law_draw))], free, consts, excs K, true, true, none, PySem.W.kitOne K, PySem.W.exmOne K⟩ (defBody (top 31)) = t_law_any := by kernel_rfl
theorem ok_law_any (W : Wo K mg free consts (excs K)) (h_law_draw : FnAt P w K mg base 1 "_law_draw" (sp_law_draw)) (F : FunD K "_law_any" "_law_any" (defArgs (top 31)) (defBody (top 31)) (defScope (top 31)) [] [] (He.ga K "_law_any") fd) (hm : mg "_law_any" = some (.ref (He.ga K "_law_any"))) : FnAt P w K mg base 2 "_law_any" (sp_law_any) := def_ok (k := 1) F hm W (by exact ⟨rfl, rfl, rfl, by decide +kernel, rfl, by decide +kernel, by decide +kernel⟩) (F.bindsN (ps := ["hand", "some"]) fun _ _ _ _ _ _ us hl => match us, hl with | [_, _], _ => rfl) (Fns.cons h_law_draw (by decide) Fns.nil) (by intro ds S Q E h; first | (unfold sp_law_any at h; split at h <;> first | rfl | exact h.elim) | (rw [h.1]; rfl) | (obtain ⟨⟨ns, rfl⟩, _⟩ := h; rfl)) ln_law_any (w_law_any)
theorem ln_law_mixed : cSs 60 ⟨["hand", "some", "left", "found"], defScope (top 32), fun _ => true, [("_law_draw", (sp_law_draw))], free, consts, excs K, true, true, none, PySem.W.kitOne K, PySem.W.exmOne K⟩ (defBody (top 32)) = t_law_mixed := by kernel_rfl
theorem ok_law_mixed (W : Wo K mg free consts (excs K)) (h_law_draw : FnAt P w K mg base 1 "_law_draw" (sp_law_draw)) (F : FunD K "_law_mixed" "_law_mixed" (defArgs (top 32)) (defBody (top 32)) (defScope (top 32)) [] [] (He.ga K "_law_mixed") fd) (hm : mg "_law_mixed" = some (.ref (He.ga K "_law_mixed"))) : FnAt P w K mg base 2 "_law_mixed" (sp_law_mixed) := def_ok (k := 1) F hm W (by exact ⟨rfl, rfl, rfl, by decide +kernel, rfl, by decide +kernel, by decide +kernel⟩) (F.bindsN (ps := ["hand", "some"]) fun _ _ _ _ _ _ us hl => match us, hl with | [_, _], _ => rfl) (Fns.cons h_law_draw (by decide) Fns.nil) (by intro ds S Q E h; first | (unfold sp_law_mixed at h; split at h <;> first | rfl | exact h.elim) | (rw [h.1]; rfl) | (obtain ⟨⟨ns, rfl⟩, _⟩ := h; rfl)) ln_law_mixed (w_law_mixed)
theorem ln_law_some : cSs 60 ⟨["hand", "some", "share", "one"], defScope (top 33), fun _ => true, [("_law_draw", (sp_law_draw))], free, consts, excs K, true, true, none, PySem.W.kitOne K, PySem.W.exmOne K⟩ (defBody (top 33)) = t_law_some := by kernel_rfl
theorem ok_law_some (W : Wo K mg free consts (excs K)) (h_law_draw : FnAt P w K mg base 1 "_law_draw" (sp_law_draw)) (F : FunD K "_law_some" "_law_some" (defArgs (top 33)) (defBody (top 33)) (defScope (top 33)) [] [] (He.ga K "_law_some") fd) (hm : mg "_law_some" = some (.ref (He.ga K "_law_some"))) : FnAt P w K mg base 2 "_law_some" (sp_law_some) := def_ok (k := 1) F hm W (by exact ⟨rfl, rfl, rfl, by decide +kernel, rfl, by decide +kernel, by decide +kernel⟩) (F.bindsN (ps := ["hand", "some", "share"]) fun _ _ _ _ _ _ us hl => match us, hl with | [_, _, _], _ => rfl) (Fns.cons h_law_draw (by decide) Fns.nil) (by intro ds S Q E h; first | (unfold sp_law_some at h; split at h <;> first | rfl | exact h.elim) | (rw [h.1]; rfl) | (obtain ⟨⟨ns, rfl⟩, _⟩ := h; rfl)) ln_law_some (w_law_some)
theorem ln_is_bag : cSs 60 ⟨["thing", "many", "one", "other"], defScope (top 4), fun _ => true, [("is_within", (sp_is_within))], free, consts, excs K, true, true, none, PySem.W.kitOne K, PySem.W.exmOne K⟩ (defBody (top 4)) = t_is_bag := by kernel_rfl
theorem ok_is_bag (W : Wo K mg free consts (excs K)) (h_is_within : FnAt P w K mg base 2 "is_within" (sp_is_within)) (F : FunD K "is_bag" "is_bag" (defArgs (top 4)) (defBody (top 4)) (defScope (top 4)) [] [] (He.ga K "is_bag") fd) (hm : mg "is_bag" = some (.ref (He.ga K "is_bag"))) : FnAt P w K mg base 3 "is_bag" (sp_is_bag) := def_ok (k := 2) F hm W (by exact ⟨rfl, rfl, rfl, by decide +kernel, rfl, by decide +kernel, by decide +kernel⟩) (F.bindsN (ps := ["thing", "many"]) fun _ _ _ _ _ _ us hl => match us, hl with | [_, _], _ => rfl) (Fns.cons h_is_within (by decide) Fns.nil) (by intro ds S Q E h; first | (unfold sp_is_bag at h; split at h <;> first | rfl | exact h.elim) | (rw [h.1]; rfl) | (obtain ⟨⟨ns, rfl⟩, _⟩ := h; rfl)) ln_is_bag (w_is_bag)
theorem ln_is_person : cSs 60 ⟨["hall", "thing"], defScope (top 19), fun _ => true, [("is_within", (sp_is_within))], free, consts, excs K, true, true, none, PySem.W.kitOne K, PySem.W.exmOne K⟩ (defBody (top 19)) = t_is_person := by kernel_rfl
theorem ok_is_person (W : Wo K mg free consts (excs K)) (h_is_within : FnAt P w K mg base 2 "is_within" (sp_is_within)) (F : FunD K "is_person" "is_person" (defArgs (top 19)) (defBody (top 19)) (defScope (top 19)) [] [] (He.ga K "is_person") fd) (hm : mg "is_person" = some (.ref (He.ga K "is_person"))) : FnAt P w K mg base 3 "is_person" (sp_is_person) := def_ok (k := 2) F hm W (by exact ⟨rfl, rfl, rfl, by decide +kernel, rfl, by decide +kernel, by decide +kernel⟩) (F.bindsN (ps := ["hall", "thing"]) fun _ _ _ _ _ _ us hl => match us, hl with | [_, _], _ => rfl) (Fns.cons h_is_within (by decide) Fns.nil) (by intro ds S Q E h; first | (unfold sp_is_person at h; split at h <;> first | rfl | exact h.elim) | (rw [h.1]; rfl) | (obtain ⟨⟨ns, rfl⟩, _⟩ := h; rfl)) ln_is_person (w_is_person)
theorem ln_behind : cSs 60 ⟨["hall", "turn", "u", "v", "g", "found"], defScope (top 23), fun _ => true, [("exchanged", (sp_exchanged))], free, consts, excs K, true, true, none, PySem.W.kitOne K, PySem.W.exmOne K⟩ (defBody (top 23)) = t_behind := by kernel_rfl
theorem ok_behind (W : Wo K mg free consts (excs K)) (h_exchanged : FnAt P w K mg base 2 "exchanged" (sp_exchanged)) (F : FunD K "behind" "behind" (defArgs (top 23)) (defBody (top 23)) (defScope (top 23)) [] [] (He.ga K "behind") fd) (hm : mg "behind" = some (.ref (He.ga K "behind"))) : FnAt P w K mg base 3 "behind" (sp_behind) := def_ok (k := 2) F hm W (by exact ⟨rfl, rfl, rfl, by decide +kernel, rfl, by decide +kernel, by decide +kernel⟩) (F.bindsN (ps := ["hall", "turn"]) fun _ _ _ _ _ _ us hl => match us, hl with | [_, _], _ => rfl) (Fns.cons h_exchanged (by decide) Fns.nil) (by intro ds S Q E h; first | (unfold sp_behind at h; split at h <;> first | rfl | exact h.elim) | (rw [h.1]; rfl) | (obtain ⟨⟨ns, rfl⟩, _⟩ := h; rfl)) ln_behind (w_behind)
theorem ln_law_hall : cSs 60 ⟨["hand", "most_persons", "most_cards", "persons", "shape", "books", "person", "order", "at", "one", "other", "few", "turn", "players", "bag"], defScope (top 35), fun _ => true, [("_law_draw", (sp_law_draw)), ("_law_some", (sp_law_some)), ("_law_mixed", (sp_law_mixed))], free, consts, excs K, true, true, none, PySem.W.kitOne K, PySem.W.exmOne K⟩ (defBody (top 35)) = t_law_hall := by kernel_rfl
theorem ok_law_hall (W : Wo K mg free consts (excs K)) (h_law_draw : FnAt P w K mg base 1 "_law_draw" (sp_law_draw)) (h_law_some : FnAt P w K mg base 2 "_law_some" (sp_law_some)) (h_law_mixed : FnAt P w K mg base 2 "_law_mixed" (sp_law_mixed)) (F : FunD K "_law_hall" "_law_hall" (defArgs (top 35)) (defBody (top 35)) (defScope (top 35)) [] [] (He.ga K "_law_hall") fd) (hm : mg "_law_hall" = some (.ref (He.ga K "_law_hall"))) : FnAt P w K mg base 3 "_law_hall" (sp_law_hall) := def_ok (k := 2) F hm W (by exact ⟨rfl, rfl, rfl, by decide +kernel, rfl, by decide +kernel, by decide +kernel⟩) (F.bindsN (ps := ["hand", "most_persons", "most_cards"]) fun _ _ _ _ _ _ us hl => match us, hl with | [_, _, _], _ => rfl) (Fns.cons h_law_draw (by decide) (Fns.cons h_law_some (by decide) (Fns.cons h_law_mixed (by decide) Fns.nil))) (by intro ds S Q E h; first | (unfold sp_law_hall at h; split at h <;> first | rfl | exact h.elim) | (rw [h.1]; rfl) | (obtain ⟨⟨ns, rfl⟩, _⟩ := h; rfl)) ln_law_hall (w_law_hall)
theorem ln_is_rising : cSs 60 ⟨["thing", "many", "one", "other"], defScope (top 5), fun _ => true, [("is_bag", (sp_is_bag))], free, consts, excs K, true, true, none, PySem.W.kitOne K, PySem.W.exmOne K⟩ (defBody (top 5)) = t_is_rising := by kernel_rfl
theorem ok_is_rising (W : Wo K mg free consts (excs K)) (h_is_bag : FnAt P w K mg base 3 "is_bag" (sp_is_bag)) (F : FunD K "is_rising" "is_rising" (defArgs (top 5)) (defBody (top 5)) (defScope (top 5)) [] [] (He.ga K "is_rising") fd) (hm : mg "is_rising" = some (.ref (He.ga K "is_rising"))) : FnAt P w K mg base 4 "is_rising" (sp_is_rising) := def_ok (k := 3) F hm W (by exact ⟨rfl, rfl, rfl, by decide +kernel, rfl, by decide +kernel, by decide +kernel⟩) (F.bindsN (ps := ["thing", "many"]) fun _ _ _ _ _ _ us hl => match us, hl with | [_, _], _ => rfl) (Fns.cons h_is_bag (by decide) Fns.nil) (by intro ds S Q E h; first | (unfold sp_is_rising at h; split at h <;> first | rfl | exact h.elim) | (rw [h.1]; rfl) | (obtain ⟨⟨ns, rfl⟩, _⟩ := h; rfl)) ln_is_rising (w_is_rising)
theorem ln_is_book : cSs 60 ⟨["thing", "many"], defScope (top 15), fun _ => true, [("is_bag", (sp_is_bag))], free, consts, excs K, true, true, none, PySem.W.kitOne K, PySem.W.exmOne K⟩ (defBody (top 15)) = t_is_book := by kernel_rfl
theorem ok_is_book (W : Wo K mg free consts (excs K)) (h_is_bag : FnAt P w K mg base 3 "is_bag" (sp_is_bag)) (F : FunD K "is_book" "is_book" (defArgs (top 15)) (defBody (top 15)) (defScope (top 15)) [] [] (He.ga K "is_book") fd) (hm : mg "is_book" = some (.ref (He.ga K "is_book"))) : FnAt P w K mg base 4 "is_book" (sp_is_book) := def_ok (k := 3) F hm W (by exact ⟨rfl, rfl, rfl, by decide +kernel, rfl, by decide +kernel, by decide +kernel⟩) (F.bindsN (ps := ["thing", "many"]) fun _ _ _ _ _ _ us hl => match us, hl with | [_, _], _ => rfl) (Fns.cons h_is_bag (by decide) Fns.nil) (by intro ds S Q E h; first | (unfold sp_is_book at h; split at h <;> first | rfl | exact h.elim) | (rw [h.1]; rfl) | (obtain ⟨⟨ns, rfl⟩, _⟩ := h; rfl)) ln_is_book (w_is_book)
theorem ln_goes : cSs 60 ⟨["hall", "players", "thing", "one", "u", "v", "g"], defScope (top 22), fun _ => true, [("is_person", (sp_is_person)), ("is_row_of", (sp_is_row_of))], free, consts, excs K, true, true, none, PySem.W.kitOne K, PySem.W.exmOne K⟩ (defBody (top 22)) = t_goes := by kernel_rfl
theorem ok_goes (W : Wo K mg free consts (excs K)) (h_is_person : FnAt P w K mg base 3 "is_person" (sp_is_person)) (h_is_row_of : FnAt P w K mg base 2 "is_row_of" (sp_is_row_of)) (F : FunD K "goes" "goes" (defArgs (top 22)) (defBody (top 22)) (defScope (top 22)) [] [] (He.ga K "goes") fd) (hm : mg "goes" = some (.ref (He.ga K "goes"))) : FnAt P w K mg base 4 "goes" (sp_goes) := def_ok (k := 3) F hm W (by exact ⟨rfl, rfl, rfl, by decide +kernel, rfl, by decide +kernel, by decide +kernel⟩) (F.bindsN (ps := ["hall", "players", "thing"]) fun _ _ _ _ _ _ us hl => match us, hl with | [_, _, _], _ => rfl) (Fns.cons h_is_person (by decide) (Fns.cons h_is_row_of (by decide) Fns.nil)) (by intro ds S Q E h; first | (unfold sp_goes at h; split at h <;> first | rfl | exact h.elim) | (rw [h.1]; rfl) | (obtain ⟨⟨ns, rfl⟩, _⟩ := h; rfl)) ln_goes (w_goes)
theorem ln_is_hall : cSs 60 ⟨["thing", "one"], defScope (top 16), fun _ => true, [("is_book", (sp_is_book))], free, consts, excs K, true, true, none, PySem.W.kitOne K, PySem.W.exmOne K⟩ (defBody (top 16)) = t_is_hall := by kernel_rfl
theorem ok_is_hall (W : Wo K mg free consts (excs K)) (h_is_book : FnAt P w K mg base 4 "is_book" (sp_is_book)) (F : FunD K "is_hall" "is_hall" (defArgs (top 16)) (defBody (top 16)) (defScope (top 16)) [] [] (He.ga K "is_hall") fd) (hm : mg "is_hall" = some (.ref (He.ga K "is_hall"))) : FnAt P w K mg base 5 "is_hall" (sp_is_hall) := def_ok (k := 4) F hm W (by exact ⟨rfl, rfl, rfl, by decide +kernel, rfl, by decide +kernel, by decide +kernel⟩) (F.bindsN (ps := ["thing"]) fun _ _ _ _ _ _ us hl => match us, hl with | [_], _ => rfl) (Fns.cons h_is_book (by decide) Fns.nil) (by intro ds S Q E h; first | (unfold sp_is_hall at h; split at h <;> first | rfl | exact h.elim) | (rw [h.1]; rfl) | (obtain ⟨⟨ns, rfl⟩, _⟩ := h; rfl)) ln_is_hall (w_is_hall)
theorem ln_check_hall : cSs 60 ⟨["hall"], defScope (top 17), fun _ => true, [("is_hall", (sp_is_hall))], free, consts, excs K, true, true, none, PySem.W.kitOne K, PySem.W.exmOne K⟩ (defBody (top 17)) = t_check_hall (He.ga K) := by kernel_rfl
theorem ok_check_hall (W : Wo K mg free consts (excs K)) (h_is_hall : FnAt P w K mg base 5 "is_hall" (sp_is_hall)) (F : FunD K "check_hall" "check_hall" (defArgs (top 17)) (defBody (top 17)) (defScope (top 17)) [] [] (He.ga K "check_hall") fd) (hm : mg "check_hall" = some (.ref (He.ga K "check_hall"))) : FnAt P w K mg base 6 "check_hall" (sp_check_hall (He.ga K)) := def_ok (k := 5) F hm W (by exact ⟨rfl, rfl, rfl, by decide +kernel, rfl, by decide +kernel, by decide +kernel⟩) (F.bindsN (ps := ["hall"]) fun _ _ _ _ _ _ us hl => match us, hl with | [_], _ => rfl) (Fns.cons h_is_hall (by decide) Fns.nil) (by intro ds S Q E h; first | (unfold sp_check_hall at h; split at h <;> first | rfl | exact h.elim) | (rw [h.1]; rfl) | (obtain ⟨⟨ns, rfl⟩, _⟩ := h; rfl)) ln_check_hall (w_check_hall (He.ga K))
theorem ln_law_same (n : Nat) : cSs 60 ⟨["one", "due", "two", "other"], defScope (top 34), fun _ => true, [("_law_same", sp_law_same n)], free, consts, excs K, true, true, none, PySem.W.kitOne K, PySem.W.exmOne K⟩ (defBody (top 34)) = t_law_same (sp_law_same n) := by kernel_rfl
theorem ok_law_same (W : Wo K mg free consts (excs K)) (F : FunD K "_law_same" "_law_same" (defArgs (top 34)) (defBody (top 34)) (defScope (top 34)) [] [] (He.ga K "_law_same") fd) (hm : mg "_law_same" = some (.ref (He.ga K "_law_same"))) : ∀ n : Nat, FnAt P w K mg base n "_law_same" (sp_law_same n)
  | 0 => def_no F hm (F.bindsN (ps := ["one", "due"]) fun _ _ _ _ _ _ us hl => match us, hl with | [_, _], _ => rfl) (by intro ds S Q E h; unfold sp_law_same at h; split at h <;> first | exact h.1.elim | exact h.elim)
  | n + 1 => def_ok F hm W (by exact ⟨rfl, rfl, rfl, by decide +kernel, rfl, by decide +kernel, by decide +kernel⟩) (F.bindsN (ps := ["one", "due"]) fun _ _ _ _ _ _ us hl => match us, hl with | [_, _], _ => rfl) (Fns.cons (ok_law_same W F hm n) (Nat.le_refl n) Fns.nil) (by intro ds S Q E h; first | (unfold sp_law_same at h; split at h <;> first | rfl | exact h.elim) | (rw [h.1]; rfl) | (obtain ⟨⟨ns, rfl⟩, _⟩ := h; rfl)) (ln_law_same n) (w_law_same n)
theorem ln_check_players : cSs 60 ⟨["hall", "players"], defScope (top 18), fun _ => true, [("is_rising", (sp_is_rising)), ("check_hall", (sp_check_hall (He.ga K)))], free, consts, excs K, true, true, none, PySem.W.kitOne K, PySem.W.exmOne K⟩ (defBody (top 18)) = t_check_players (He.ga K) := by kernel_rfl
theorem ok_check_players (W : Wo K mg free consts (excs K)) (h_is_rising : FnAt P w K mg base 4 "is_rising" (sp_is_rising)) (h_check_hall : FnAt P w K mg base 6 "check_hall" (sp_check_hall (He.ga K))) (F : FunD K "check_players" "check_players" (defArgs (top 18)) (defBody (top 18)) (defScope (top 18)) [] [] (He.ga K "check_players") fd) (hm : mg "check_players" = some (.ref (He.ga K "check_players"))) : FnAt P w K mg base 7 "check_players" (sp_check_players (He.ga K)) := def_ok (k := 6) F hm W (by exact ⟨rfl, rfl, rfl, by decide +kernel, rfl, by decide +kernel, by decide +kernel⟩) (F.bindsN (ps := ["hall", "players"]) fun _ _ _ _ _ _ us hl => match us, hl with | [_, _], _ => rfl) (Fns.cons h_is_rising (by decide) (Fns.cons h_check_hall (by decide) Fns.nil)) (by intro ds S Q E h; first | (unfold sp_check_players at h; split at h <;> first | rfl | exact h.elim) | (rw [h.1]; rfl) | (obtain ⟨⟨ns, rfl⟩, _⟩ := h; rfl)) ln_check_players (w_check_players (He.ga K))
theorem ln_is_turn : cSs 60 ⟨["hall", "players", "thing"], defScope (top 24), fun _ => true, [("goes", (sp_goes)), ("check_players", (sp_check_players (He.ga K)))], free, consts, excs K, true, true, none, PySem.W.kitOne K, PySem.W.exmOne K⟩ (defBody (top 24)) = t_is_turn (He.ga K) := by kernel_rfl
theorem ok_is_turn (W : Wo K mg free consts (excs K)) (h_goes : FnAt P w K mg base 4 "goes" (sp_goes)) (h_check_players : FnAt P w K mg base 7 "check_players" (sp_check_players (He.ga K))) (F : FunD K "is_turn" "is_turn" (defArgs (top 24)) (defBody (top 24)) (defScope (top 24)) [] [] (He.ga K "is_turn") fd) (hm : mg "is_turn" = some (.ref (He.ga K "is_turn"))) : FnAt P w K mg base 8 "is_turn" (sp_is_turn (He.ga K)) := def_ok (k := 7) F hm W (by exact ⟨rfl, rfl, rfl, by decide +kernel, rfl, by decide +kernel, by decide +kernel⟩) (F.bindsN (ps := ["hall", "players", "thing"]) fun _ _ _ _ _ _ us hl => match us, hl with | [_, _, _], _ => rfl) (Fns.cons h_goes (by decide) (Fns.cons h_check_players (by decide) Fns.nil)) (by intro ds S Q E h; first | (unfold sp_is_turn at h; split at h <;> first | rfl | exact h.elim) | (rw [h.1]; rfl) | (obtain ⟨⟨ns, rfl⟩, _⟩ := h; rfl)) ln_is_turn (w_is_turn (He.ga K))
theorem ln_turned : cSs 60 ⟨["hall", "players", "turn"], defScope (top 25), fun _ => true, [("behind", (sp_behind)), ("goes", (sp_goes)), ("check_players", (sp_check_players (He.ga K)))], free, consts, excs K, true, true, none, PySem.W.kitOne K, PySem.W.exmOne K⟩ (defBody (top 25)) = t_turned (He.ga K) := by kernel_rfl
theorem ok_turned (W : Wo K mg free consts (excs K)) (h_behind : FnAt P w K mg base 3 "behind" (sp_behind)) (h_goes : FnAt P w K mg base 4 "goes" (sp_goes)) (h_check_players : FnAt P w K mg base 7 "check_players" (sp_check_players (He.ga K))) (F : FunD K "turned" "turned" (defArgs (top 25)) (defBody (top 25)) (defScope (top 25)) [] [] (He.ga K "turned") fd) (hm : mg "turned" = some (.ref (He.ga K "turned"))) : FnAt P w K mg base 8 "turned" (sp_turned (He.ga K)) := def_ok (k := 7) F hm W (by exact ⟨rfl, rfl, rfl, by decide +kernel, rfl, by decide +kernel, by decide +kernel⟩) (F.bindsN (ps := ["hall", "players", "turn"]) fun _ _ _ _ _ _ us hl => match us, hl with | [_, _, _], _ => rfl) (Fns.cons h_behind (by decide) (Fns.cons h_goes (by decide) (Fns.cons h_check_players (by decide) Fns.nil))) (by intro ds S Q E h; first | (unfold sp_turned at h; split at h <;> first | rfl | exact h.elim) | (rw [h.1]; rfl) | (obtain ⟨⟨ns, rfl⟩, _⟩ := h; rfl)) ln_turned (w_turned (He.ga K))
theorem ln_turns : cSs 60 ⟨["hall", "players"], defScope (top 27), fun _ => true, [("all_going", (sp_all_going)), ("check_players", (sp_check_players (He.ga K)))], free, consts, excs K, true, true, none, PySem.W.kitOne K, PySem.W.exmOne K⟩ (defBody (top 27)) = t_turns (He.ga K) := by kernel_rfl
theorem ok_turns (W : Wo K mg free consts (excs K)) (h_all_going : FnAt P w K mg base 1 "all_going" (sp_all_going)) (h_check_players : FnAt P w K mg base 7 "check_players" (sp_check_players (He.ga K))) (F : FunD K "turns" "turns" (defArgs (top 27)) (defBody (top 27)) (defScope (top 27)) [] [] (He.ga K "turns") fd) (hm : mg "turns" = some (.ref (He.ga K "turns"))) : FnAt P w K mg base 8 "turns" (sp_turns (He.ga K)) := def_ok (k := 7) F hm W (by exact ⟨rfl, rfl, rfl, by decide +kernel, rfl, by decide +kernel, by decide +kernel⟩) (F.bindsN (ps := ["hall", "players"]) fun _ _ _ _ _ _ us hl => match us, hl with | [_, _], _ => rfl) (Fns.cons h_all_going (by decide) (Fns.cons h_check_players (by decide) Fns.nil)) (by intro ds S Q E h; first | (unfold sp_turns at h; split at h <;> first | rfl | exact h.elim) | (rw [h.1]; rfl) | (obtain ⟨⟨ns, rfl⟩, _⟩ := h; rfl)) ln_turns (w_turns (He.ga K))
theorem ln_law_told : cSs 60 ⟨["hall", "players", "thing", "found", "e"], defScope (top 38), fun _ => true, [("turned", (sp_turned (He.ga K)))], free, consts, excs K, true, true, none, PySem.W.kitOne K, PySem.W.exmOne K⟩ (defBody (top 38)) = t_law_told (He.ga K) (PySem.W.kitOne K) (PySem.W.exmOne K) (excs K) := by kernel_rfl
theorem ok_law_told (W : Wo K mg free consts (excs K)) (T : Told (He.ga K) (PySem.W.kitOne K) (PySem.W.exmOne K) (excs K)) (h_turned : FnAt P w K mg base 8 "turned" (sp_turned (He.ga K))) (F : FunD K "_law_told" "_law_told" (defArgs (top 38)) (defBody (top 38)) (defScope (top 38)) [] [] (He.ga K "_law_told") fd) (hm : mg "_law_told" = some (.ref (He.ga K "_law_told"))) : FnAt P w K mg base 9 "_law_told" (sp_law_told) := def_ok (k := 8) F hm W (by exact ⟨rfl, rfl, rfl, by decide +kernel, rfl, by decide +kernel, by decide +kernel⟩) (F.bindsN (ps := ["hall", "players", "thing"]) fun _ _ _ _ _ _ us hl => match us, hl with | [_, _, _], _ => rfl) (Fns.cons h_turned (by decide) Fns.nil) (by intro ds S Q E h; first | (unfold sp_law_told at h; split at h <;> first | rfl | exact h.elim) | (rw [h.1]; rfl) | (obtain ⟨⟨ns, rfl⟩, _⟩ := h; rfl)) ln_law_told (w_law_told (He.ga K) (PySem.W.kitOne K) (PySem.W.exmOne K) (excs K) T)
theorem ln_law_are_odd_ones_right : cSs 60 ⟨["found", "turn"], defScope (top 40), fun _ => true, [("_law_same", (sp_law_same 6)), ("turns", (sp_turns (He.ga K))), ("turned", (sp_turned (He.ga K)))], free, consts, excs K, true, true, none, PySem.W.kitOne K, PySem.W.exmOne K⟩ (defBody (top 40)) = t_law_are_odd_ones_right (He.ga K) := by kernel_rfl
theorem ok_law_are_odd_ones_right (W : Wo K mg free consts (excs K)) (h_law_same : FnAt P w K mg base 6 "_law_same" (sp_law_same 6)) (h_turns : FnAt P w K mg base 8 "turns" (sp_turns (He.ga K))) (h_turned : FnAt P w K mg base 8 "turned" (sp_turned (He.ga K))) (F : FunD K "_law_are_odd_ones_right" "_law_are_odd_ones_right" (defArgs (top 40)) (defBody (top 40)) (defScope (top 40)) [] [] (He.ga K "_law_are_odd_ones_right") fd) (hm : mg "_law_are_odd_ones_right" = some (.ref (He.ga K "_law_are_odd_ones_right"))) : FnAt P w K mg base 9 "_law_are_odd_ones_right" (sp_law_are_odd_ones_right) := def_ok (k := 8) F hm W (by exact ⟨rfl, rfl, rfl, by decide +kernel, rfl, by decide +kernel, by decide +kernel⟩) (F.bindsN (ps := []) fun _ _ _ _ _ _ us hl => match us, hl with | [], _ => rfl) (Fns.cons h_law_same (by decide) (Fns.cons h_turns (by decide) (Fns.cons h_turned (by decide) Fns.nil))) (by intro ds S Q E h; first | (unfold sp_law_are_odd_ones_right at h; split at h <;> first | rfl | exact h.elim) | (rw [h.1]; rfl) | (obtain ⟨⟨ns, rfl⟩, _⟩ := h; rfl)) ln_law_are_odd_ones_right (w_law_odd (He.ga K))
theorem ln_law_are_listed : cSs 60 ⟨["hand", "hall", "players", "due", "found", "again", "turn", "u", "v", "g", "behind_v", "many", "is_due"], defScope (top 39), fun _ => true, [("_law_same", (sp_law_same 6)), ("turns", (sp_turns (He.ga K))), ("_law_told", (sp_law_told)), ("is_turn", (sp_is_turn (He.ga K))), ("_law_draw", (sp_law_draw)), ("_law_any", (sp_law_any)), ("_law_turns", (sp_law_turns)), ("turned", (sp_turned (He.ga K))), ("_law_behind", (sp_law_behind))], free, consts, excs K, true, true, none, PySem.W.kitOne K, PySem.W.exmOne K⟩ (defBody (top 39)) = t_law_are_listed (He.ga K) := by kernel_rfl
theorem ok_law_are_listed (W : Wo K mg free consts (excs K)) (h_law_same : FnAt P w K mg base 6 "_law_same" (sp_law_same 6)) (h_turns : FnAt P w K mg base 8 "turns" (sp_turns (He.ga K))) (h_law_told : FnAt P w K mg base 9 "_law_told" (sp_law_told)) (h_is_turn : FnAt P w K mg base 8 "is_turn" (sp_is_turn (He.ga K))) (h_law_draw : FnAt P w K mg base 1 "_law_draw" (sp_law_draw)) (h_law_any : FnAt P w K mg base 2 "_law_any" (sp_law_any)) (h_law_turns : FnAt P w K mg base 1 "_law_turns" (sp_law_turns)) (h_turned : FnAt P w K mg base 8 "turned" (sp_turned (He.ga K))) (h_law_behind : FnAt P w K mg base 1 "_law_behind" (sp_law_behind)) (F : FunD K "_law_are_listed" "_law_are_listed" (defArgs (top 39)) (defBody (top 39)) (defScope (top 39)) [] [] (He.ga K "_law_are_listed") fd) (hm : mg "_law_are_listed" = some (.ref (He.ga K "_law_are_listed"))) : FnAt P w K mg base 10 "_law_are_listed" (sp_law_are_listed) := def_ok (k := 9) F hm W (by exact ⟨rfl, rfl, rfl, by decide +kernel, rfl, by decide +kernel, by decide +kernel⟩) (F.bindsN (ps := ["hand", "hall", "players"]) fun _ _ _ _ _ _ us hl => match us, hl with | [_, _, _], _ => rfl) (Fns.cons h_law_same (by decide) (Fns.cons h_turns (by decide) (Fns.cons h_law_told (by decide) (Fns.cons h_is_turn (by decide) (Fns.cons h_law_draw (by decide) (Fns.cons h_law_any (by decide) (Fns.cons h_law_turns (by decide) (Fns.cons h_turned (by decide) (Fns.cons h_law_behind (by decide) Fns.nil))))))))) (by intro ds S Q E h; first | (unfold sp_law_are_listed at h; split at h <;> first | rfl | exact h.elim) | (rw [h.1]; rfl) | (obtain ⟨⟨ns, rfl⟩, _⟩ := h; rfl)) ln_law_are_listed (w_law_are_listed (He.ga K))
theorem ln_law : cSs 60 ⟨["script", "hand", "turn", "hall", "players", "full", "card", "person"], defScope (top 41), fun _ => true, [("turns", (sp_turns (He.ga K))), ("_law_are_listed", (sp_law_are_listed)), ("_law_hall", (sp_law_hall)), ("_law_any", (sp_law_any)), ("_law_are_odd_ones_right", (sp_law_are_odd_ones_right)), ("_law_hand", (sp_law_hand))], free, consts, excs K, true, true, none, PySem.W.kitOne K, PySem.W.exmOne K⟩ (defBody (top 41)) = t_law (He.ga K) := by kernel_rfl
theorem ok_law (W : Wo K mg free consts (excs K)) (h_turns : FnAt P w K mg base 8 "turns" (sp_turns (He.ga K))) (h_law_are_listed : FnAt P w K mg base 10 "_law_are_listed" (sp_law_are_listed)) (h_law_hall : FnAt P w K mg base 3 "_law_hall" (sp_law_hall)) (h_law_any : FnAt P w K mg base 2 "_law_any" (sp_law_any)) (h_law_are_odd_ones_right : FnAt P w K mg base 9 "_law_are_odd_ones_right" (sp_law_are_odd_ones_right)) (h_law_hand : FnAt P w K mg base 1 "_law_hand" (sp_law_hand)) (F : FunD K "law" "law" (defArgs (top 41)) (defBody (top 41)) (defScope (top 41)) [] [] (He.ga K "law") fd) (hm : mg "law" = some (.ref (He.ga K "law"))) : FnOk P w K mg base (L2.CX P w) 11 (He.ga K "law") fd ["script"] (lift K (sp_law)) := def_okF (k := 10) F hm W (by exact ⟨rfl, rfl, rfl, by decide +kernel, rfl, by decide +kernel, by decide +kernel⟩) (F.bindsN (ps := ["script"]) fun _ _ _ _ _ _ us hl => match us, hl with | [_], _ => rfl) (Fns.cons h_turns (by decide) (Fns.cons h_law_are_listed (by decide) (Fns.cons h_law_hall (by decide) (Fns.cons h_law_any (by decide) (Fns.cons h_law_are_odd_ones_right (by decide) (Fns.cons h_law_hand (by decide) Fns.nil)))))) (by intro ds S Q E h; first | (unfold sp_law at h; split at h <;> first | rfl | exact h.elim) | (rw [h.1]; rfl) | (obtain ⟨⟨ns, rfl⟩, _⟩ := h; rfl)) ln_law (w_law (He.ga K))
end
theorem facts {P : Program} {w : World} {K : PySem.W.Frag} {h : Heap} {mg : Str → Option Value} {f : Addr} (X : K.In h) (G : h.Ns mainGlobals mg) (hfa : mg ("law" : Str) = some (.ref f)) (c : He.SaysD fa fn K) (ex : exB exn K = true) :
    ∃ fd : FuncData, (∀ (s : Shared) (v : Value), BindsTo s fd ⟨[v], []⟩ [("script", v)]) ∧ ∀ base : Heap, K.In base → base.Ns mainGlobals mg → FnOk P w K mg base (L2.CX P w) 11 f fd ["script"] (lift K sp_law) := by
  obtain ⟨fd0, F0⟩ := c.def_ 0 (d := fn[0]) rfl
  obtain ⟨fd1, F1⟩ := c.def_ 1 (d := fn[1]) rfl
  obtain ⟨fd2, F2⟩ := c.def_ 2 (d := fn[2]) rfl
  obtain ⟨fd3, F3⟩ := c.def_ 3 (d := fn[3]) rfl
  obtain ⟨fd4, F4⟩ := c.def_ 4 (d := fn[4]) rfl
  obtain ⟨fd5, F5⟩ := c.def_ 5 (d := fn[5]) rfl
  obtain ⟨fd6, F6⟩ := c.def_ 6 (d := fn[6]) rfl
  obtain ⟨fd7, F7⟩ := c.def_ 7 (d := fn[7]) rfl
  obtain ⟨fd8, F8⟩ := c.def_ 8 (d := fn[8]) rfl
  obtain ⟨fd9, F9⟩ := c.def_ 9 (d := fn[9]) rfl
  obtain ⟨fd10, F10⟩ := c.def_ 10 (d := fn[10]) rfl
  obtain ⟨fd11, F11⟩ := c.def_ 11 (d := fn[11]) rfl
  obtain ⟨fd12, F12⟩ := c.def_ 12 (d := fn[12]) rfl
  obtain ⟨fd13, F13⟩ := c.def_ 13 (d := fn[13]) rfl
  obtain ⟨fd14, F14⟩ := c.def_ 14 (d := fn[14]) rfl
  obtain ⟨fd15, F15⟩ := c.def_ 15 (d := fn[15]) rfl
  obtain ⟨fd16, F16⟩ := c.def_ 16 (d := fn[16]) rfl
  obtain ⟨fd17, F17⟩ := c.def_ 17 (d := fn[17]) rfl
  obtain ⟨fd18, F18⟩ := c.def_ 18 (d := fn[18]) rfl
  obtain ⟨fd19, F19⟩ := c.def_ 19 (d := fn[19]) rfl
  obtain ⟨fd20, F20⟩ := c.def_ 20 (d := fn[20]) rfl
  obtain ⟨fd21, F21⟩ := c.def_ 21 (d := fn[21]) rfl
  obtain ⟨fd22, F22⟩ := c.def_ 22 (d := fn[22]) rfl
  obtain ⟨fd23, F23⟩ := c.def_ 23 (d := fn[23]) rfl
  obtain ⟨fd24, F24⟩ := c.def_ 24 (d := fn[24]) rfl
  obtain ⟨fd25, F25⟩ := c.def_ 25 (d := fn[25]) rfl
  obtain ⟨fd26, F26⟩ := c.def_ 26 (d := fn[26]) rfl
  obtain ⟨fd27, F27⟩ := c.def_ 27 (d := fn[27]) rfl
  obtain ⟨fd28, F28⟩ := c.def_ 28 (d := fn[28]) rfl
  obtain ⟨fd29, F29⟩ := c.def_ 29 (d := fn[29]) rfl
  obtain ⟨fd30, F30⟩ := c.def_ 30 (d := fn[30]) rfl
  have e := hfa.symm.trans (He.glo_ok X G (c.fact 34 (f := .glo "law") rfl))
  cases e
  have b := FunD.bindsA (ps := ["script"]) F30 fun _ _ _ _ _ _ us hl => match us, hl with | [_], _ => rfl
  have W : Wo K mg free consts (excs K) := ⟨(free_cons (He.free_ok X G (c.fact 41 (f := .free "ValueError") rfl)) (free_cons (He.free_ok X G (c.fact 42 (f := .free "abs") rfl)) (free_cons (He.free_ok X G (c.fact 43 (f := .free "all") rfl)) (free_cons (He.free_ok X G (c.fact 44 (f := .free "bool") rfl)) (free_cons (He.free_ok X G (c.fact 45 (f := .free "int") rfl)) (free_cons (He.free_ok X G (c.fact 46 (f := .free "isinstance") rfl)) (free_cons (He.free_ok X G (c.fact 47 (f := .free "len") rfl)) (free_cons (He.free_ok X G (c.fact 48 (f := .free "list") rfl)) (free_cons (He.free_ok X G (c.fact 49 (f := .free "range") rfl)) (free_cons (He.free_ok X G (c.fact 50 (f := .free "set") rfl)) (free_cons (He.free_ok X G (c.fact 51 (f := .free "sorted") rfl)) (free_cons (He.free_ok X G (c.fact 52 (f := .free "str") rfl)) (free_cons (He.free_ok X G (c.fact 53 (f := .free "tuple") rfl)) (free_cons (He.free_ok X G (c.fact 54 (f := .free "zip") rfl)) free_nil)))))))))))))), (consts_cons (const_int (He.int_ok X G (c.fact 39 rfl))) (consts_cons (const_int (He.int_ok X G (c.fact 40 rfl))) consts_nil)), (excs_cons (xc_at X G (c.fact 6 (f := .glo "CardFault") rfl) (c.fact 35 (f := .exc "CardFault") rfl) (exB_ok ex (x := "CardFault") (by decide))) (excs_cons (xc_at X G (c.fact 7 (f := .glo "BadHall") rfl) (c.fact 36 (f := .exc "BadHall") rfl) (exB_ok ex (x := "BadHall") (by decide))) (excs_cons (xc_at X G (c.fact 8 (f := .glo "BadPlayers") rfl) (c.fact 37 (f := .exc "BadPlayers") rfl) (exB_ok ex (x := "BadPlayers") (by decide))) (excs_cons (xc_at X G (c.fact 9 (f := .glo "BadTurn") rfl) (c.fact 38 (f := .exc "BadTurn") rfl) (exB_ok ex (x := "BadTurn") (by decide))) excs_nil))))⟩
  have T : Told (He.ga K) (PySem.W.kitOne K) (PySem.W.exmOne K) (excs K) := ⟨He.exm_ok (c.fact 55 (f := .exm "BadTurn" "BadTurn" true) rfl), kit_of_exm (He.exm_ok (c.fact 56 (f := .exm "BadTurn" "CardFault" true) rfl)), rfl⟩
  refine ⟨_, fun s v => b s [v] rfl, fun base _ _ => ?_⟩
  have h_is_integer := ok_is_integer (P := P) (w := w) (base := base) W  F0 (He.glo_ok X G (c.fact 0 (f := .glo "is_integer") rfl))
  have h_less := ok_less (P := P) (w := w) (base := base) W  F5 (He.glo_ok X G (c.fact 5 (f := .glo "less") rfl))
  have h_all_going := ok_all_going (P := P) (w := w) (base := base) W  F16 (He.glo_ok X G (c.fact 20 (f := .glo "all_going") rfl))
  have h_law_hand := ok_law_hand (P := P) (w := w) (base := base) W  F18 (He.glo_ok X G (c.fact 22 (f := .glo "_law_hand") rfl))
  have h_law_draw := ok_law_draw (P := P) (w := w) (base := base) W  F19 (He.glo_ok X G (c.fact 23 (f := .glo "_law_draw") rfl))
  have h_law_turns := ok_law_turns (P := P) (w := w) (base := base) W  F25 (He.glo_ok X G (c.fact 29 (f := .glo "_law_turns") rfl))
  have h_law_behind := ok_law_behind (P := P) (w := w) (base := base) W  F26 (He.glo_ok X G (c.fact 30 (f := .glo "_law_behind") rfl))
  have h_is_within := ok_is_within (P := P) (w := w) (base := base) W h_is_integer F1 (He.glo_ok X G (c.fact 1 (f := .glo "is_within") rfl))
  have h_is_row_of := ok_is_row_of (P := P) (w := w) (base := base) W h_is_integer F2 (He.glo_ok X G (c.fact 2 (f := .glo "is_row_of") rfl))
  have h_exchanged := ok_exchanged (P := P) (w := w) (base := base) W h_less F11 (He.glo_ok X G (c.fact 15 (f := .glo "exchanged") rfl))
  have h_law_any := ok_law_any (P := P) (w := w) (base := base) W h_law_draw F20 (He.glo_ok X G (c.fact 24 (f := .glo "_law_any") rfl))
  have h_law_mixed := ok_law_mixed (P := P) (w := w) (base := base) W h_law_draw F21 (He.glo_ok X G (c.fact 25 (f := .glo "_law_mixed") rfl))
  have h_law_some := ok_law_some (P := P) (w := w) (base := base) W h_law_draw F22 (He.glo_ok X G (c.fact 26 (f := .glo "_law_some") rfl))
  have h_is_bag := ok_is_bag (P := P) (w := w) (base := base) W h_is_within F3 (He.glo_ok X G (c.fact 3 (f := .glo "is_bag") rfl))
  have h_is_person := ok_is_person (P := P) (w := w) (base := base) W h_is_within F10 (He.glo_ok X G (c.fact 14 (f := .glo "is_person") rfl))
  have h_behind := ok_behind (P := P) (w := w) (base := base) W h_exchanged F13 (He.glo_ok X G (c.fact 17 (f := .glo "behind") rfl))
  have h_law_hall := ok_law_hall (P := P) (w := w) (base := base) W h_law_draw h_law_some h_law_mixed F24 (He.glo_ok X G (c.fact 28 (f := .glo "_law_hall") rfl))
  have h_is_rising := ok_is_rising (P := P) (w := w) (base := base) W h_is_bag F4 (He.glo_ok X G (c.fact 4 (f := .glo "is_rising") rfl))
  have h_is_book := ok_is_book (P := P) (w := w) (base := base) W h_is_bag F6 (He.glo_ok X G (c.fact 10 (f := .glo "is_book") rfl))
  have h_goes := ok_goes (P := P) (w := w) (base := base) W h_is_person h_is_row_of F12 (He.glo_ok X G (c.fact 16 (f := .glo "goes") rfl))
  have h_is_hall := ok_is_hall (P := P) (w := w) (base := base) W h_is_book F7 (He.glo_ok X G (c.fact 11 (f := .glo "is_hall") rfl))
  have h_check_hall := ok_check_hall (P := P) (w := w) (base := base) W h_is_hall F8 (He.glo_ok X G (c.fact 12 (f := .glo "check_hall") rfl))
  have h_law_same : FnAt P w K mg base 6 "_law_same" (sp_law_same 6) := ok_law_same W F23 (He.glo_ok X G (c.fact 27 (f := .glo "_law_same") rfl)) 6
  have h_check_players := ok_check_players (P := P) (w := w) (base := base) W h_is_rising h_check_hall F9 (He.glo_ok X G (c.fact 13 (f := .glo "check_players") rfl))
  have h_is_turn := ok_is_turn (P := P) (w := w) (base := base) W h_goes h_check_players F14 (He.glo_ok X G (c.fact 18 (f := .glo "is_turn") rfl))
  have h_turned := ok_turned (P := P) (w := w) (base := base) W h_behind h_goes h_check_players F15 (He.glo_ok X G (c.fact 19 (f := .glo "turned") rfl))
  have h_turns := ok_turns (P := P) (w := w) (base := base) W h_all_going h_check_players F17 (He.glo_ok X G (c.fact 21 (f := .glo "turns") rfl))
  have h_law_told := ok_law_told (P := P) (w := w) (base := base) W T h_turned F27 (He.glo_ok X G (c.fact 31 (f := .glo "_law_told") rfl))
  have h_law_are_odd_ones_right := ok_law_are_odd_ones_right (P := P) (w := w) (base := base) W h_law_same h_turns h_turned F29 (He.glo_ok X G (c.fact 33 (f := .glo "_law_are_odd_ones_right") rfl))
  have h_law_are_listed := ok_law_are_listed (P := P) (w := w) (base := base) W h_law_same h_turns h_law_told h_is_turn h_law_draw h_law_any h_law_turns h_turned h_law_behind F28 (He.glo_ok X G (c.fact 32 (f := .glo "_law_are_listed") rfl))
  exact ok_law W h_turns h_law_are_listed h_law_hall h_law_any h_law_are_odd_ones_right h_law_hand F30 (He.glo_ok X G (c.fact 34 (f := .glo "law") rfl))
end Asm
open PySem PySem.W PySem.Calls PyProof.Rows
theorem PySem.Challenge.cw_cardturns_k06_whole_turns_listed_holds : PySem.Challenge.rw_cardturns_k06_whole_turns_listed.Holds := by
  w_on; o_law
  refine HandSHeadRun.head_any (r := OpenLaw.row PySem.Challenge.rw_cardturns_k06_whole_turns_listed) (q := view (OpenLaw.row PySem.Challenge.rw_cardturns_k06_whole_turns_listed).prog [41]) (H := Asm.hk) (ob := Asm.ob) (M := 3000) (loose := Asm.loose) (d := HandSHeadRun.topDef (OpenLaw.row PySem.Challenge.rw_cardturns_k06_whole_turns_listed).prog 41) (kwd := []) Asm.ob_eq
    (by kernel_rfl) (fun s => by kernel_rfl) Asm.run (by kernel_rfl) (by kernel_rfl) (by kernel_rfl) (by rfl) (by first | assumption | decide +kernel) (by decide +kernel) ⟨rfl, rfl, rfl, rfl, rfl, by decide +kernel⟩ ?hw ?hc
  case hw => w_witness2
  case hc =>
    refine L2.walk_ofE (l := PySem.Challenge.rw_cardturns_k06_whole_turns_listed) (n := 63) (k := 11) (x := "script") (CX := DL.CXw) rfl (by decide) (by kernel_rfl) ⟨rfl, by decide, by decide⟩ ?F (fun _ _ _ _ z => DL.CXw_no z)
    intro w mg fa h Y G hmg0
    obtain ⟨K, KX, c, ex⟩ := Y
    have hmg : mg ("law" : PySem.Str) = some (.ref fa) := by
      have e : (HandSHeadRun.topDef (OpenLaw.row PySem.Challenge.rw_cardturns_k06_whole_turns_listed).prog 41).name = ("law" : PySem.Str) := by kernel_rfl
      rw [← e]
      exact hmg0
    obtain ⟨fd, hb, hF⟩ := Asm.facts (P := (PySem.Challenge.rw_cardturns_k06_whole_turns_listed).prog) (w := w) KX G hmg c ex
    exact ⟨K, fd, DL.lift K DL.sp_law, KX, hb, fun H a ns hl hO hS => DL.law_lift hO hS ⟨⟨ns, rfl⟩, fun _ => rfl⟩, fun base h1 h2 => DL.fnOk_w (hF base h1 h2)⟩

