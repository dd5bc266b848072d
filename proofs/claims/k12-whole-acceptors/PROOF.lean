import PyProof.Rows.All
import HandS.ForMost
import HandS.Style
import HandS.Conv
import HandS.Deep
import HandS.DictComp
import HandS.Zip
import HandS.Walk
import HandS.Flow
import HandS.SortInts
import KE.SortData
import KE.GoesEnum
import PyProof.Rows.InDataRows
import PyProof.DictFindH
import PySem.Challenge.RW_unendtold_k12_whole_acceptors_of_readers
import Wide.All
import OpenK.AllK
import Wide.FinOn
import KE.KStateDown
import HandS.Ends
import HandS.More
import HandS.Words
import HandS.WordsExc
import HandS.Defaults
import HandS.Head0
import HandS.Head1
import HandS.Head2
import HandS.HeadEnd
import HandS.HeadHook1
import HandS.HeadHook2
set_option Elab.async false
set_option linter.all false
set_option maxRecDepth 100000
set_option maxHeartbeats 4000000
/-! K12A: a layer of symbolic states over HandS: data on heaps, slots, expressions and statements. -/
namespace KK
open PySem PySem.Spec PyProof.Rows L2

/-! ### data on a heap -/
mutual
inductive Dt (H : Hp) : V → PyData → Prop
  | int (i : Int) : Dt H (.int i) (.int i)
  | bl (b : Bool) : Dt H (.bl b) (.bool b)
  | lst {a : Addr} {xs : List V} {ds : List PyData} (h : H a = some (.lst xs)) (r : DtAll H xs ds) : Dt H (.ref a) (.list ds)
  | tup {a : Addr} {xs : List V} {ds : List PyData} (h : H a = some (.tup xs)) (r : DtAll H xs ds) : Dt H (.ref a) (.tuple ds)
inductive DtAll (H : Hp) : List V → List PyData → Prop
  | nil : DtAll H [] []
  | cons {v : V} {vs : List V} {d : PyData} {ds : List PyData} (h : Dt H v d) (r : DtAll H vs ds) : DtAll H (v :: vs) (d :: ds)
end
mutual
theorem Dt.up {H H' : Hp} (e : Same H H') : ∀ (d : PyData) (v : V), Dt H v d → Dt H' v d
  | .none, _, h => by cases h
  | .bool _, _, h => by cases h; exact .bl _
  | .int _, _, h => by cases h; exact .int _
  | .str _, _, h => by cases h
  | .list ds, _, h => by
    cases h with
    | lst h r => exact .lst (e _ _ h) (DtAll.up e ds _ r)
  | .tuple ds, _, h => by
    cases h with
    | tup h r => exact .tup (e _ _ h) (DtAll.up e ds _ r)
  | .dict _, _, h => by cases h
theorem DtAll.up {H H' : Hp} (e : Same H H') : ∀ (ds : List PyData) (vs : List V), DtAll H vs ds → DtAll H' vs ds
  | [], _, h => by cases h; exact .nil
  | d :: ds, _, h => by
    cases h with
    | cons h r => exact .cons (Dt.up e d _ h) (DtAll.up e ds _ r)
end
mutual
theorem Dt.dp {H : Hp} {K : PySem.W.Frag} : ∀ (d : PyData) (v : V), Dt H v d → Dp K H v d
  | .none, _, h => by cases h
  | .bool _, _, h => by cases h; exact .bl _
  | .int _, _, h => by cases h; exact .int _
  | .str _, _, h => by cases h
  | .list ds, _, h => by
    cases h with
    | lst h r => exact .lst (SqL.of h) (DtAll.dp ds _ r)
  | .tuple ds, _, h => by
    cases h with
    | tup h r => exact .tup (SqT.of h) (DtAll.dp ds _ r)
  | .dict _, _, h => by cases h
theorem DtAll.dp {H : Hp} {K : PySem.W.Frag} : ∀ (ds : List PyData) (vs : List V), DtAll H vs ds → DpAll K H vs ds
  | [], _, h => by cases h; exact .nil
  | d :: ds, _, h => by
    cases h with
    | cons h r => exact .cons (Dt.dp d _ h) (DtAll.dp ds _ r)
end
section
variable {H : Hp} {v : V} {i : Int} {b : Bool} {ds es : List PyData} {d : PyData} {vs ws : List V}
theorem Dt.int_eq (h : Dt H v (.int i)) : v = .int i := by cases h; rfl
theorem Dt.bl_eq (h : Dt H v (.bool b)) : v = .bl b := by cases h; rfl
theorem Dt.lst_ex (h : Dt H v (.list ds)) : ∃ a xs, v = .ref a ∧ H a = some (.lst xs) ∧ DtAll H xs ds := by
  cases h with
  | lst h r => exact ⟨_, _, rfl, h, r⟩
theorem Dt.tup_ex (h : Dt H v (.tuple ds)) : ∃ a xs, v = .ref a ∧ H a = some (.tup xs) ∧ DtAll H xs ds := by
  cases h with
  | tup h r => exact ⟨_, _, rfl, h, r⟩
theorem DtAll.len (h : DtAll H vs ds) : vs.length = ds.length := by
  induction vs generalizing ds with
  | nil => cases h; rfl
  | cons v vs ih =>
    cases h with
    | cons _ r => simp [ih r]
theorem DtAll.get {n : Nat} (h : DtAll H vs ds) (hd : ds[n]? = some d) : ∃ v, vs[n]? = some v ∧ Dt H v d := by
  induction vs generalizing ds n with
  | nil => cases h; simp at hd
  | cons v vs ih =>
    cases h with
    | cons h0 r =>
      cases n with
      | zero => simp at hd; subst hd; exact ⟨v, rfl, h0⟩
      | succ n => exact ih r (by simpa using hd)
theorem DtAll.getV {n : Nat} (h : DtAll H vs ds) (hv : vs[n]? = some v) : ∃ d, ds[n]? = some d ∧ Dt H v d := by
  induction vs generalizing ds n with
  | nil => simp at hv
  | cons v0 vs ih =>
    cases h with
    | cons h0 r =>
      cases n with
      | zero => simp at hv; subst hv; exact ⟨_, rfl, h0⟩
      | succ n =>
        obtain ⟨d, q1, q2⟩ := ih (n := n) r (by simpa using hv)
        exact ⟨d, by simpa using q1, q2⟩
theorem DtAll.app (h : DtAll H vs ds) (g : DtAll H ws es) : DtAll H (vs ++ ws) (ds ++ es) := by
  induction vs generalizing ds with
  | nil => cases h; exact g
  | cons v vs ih =>
    cases h with
    | cons h0 r => exact .cons h0 (ih r)
theorem DtAll.one (h : Dt H v d) : DtAll H [v] [d] := .cons h .nil
theorem DtAll.drop (n : Nat) (h : DtAll H vs ds) : DtAll H (vs.drop n) (ds.drop n) := by
  induction n generalizing vs ds with
  | zero => exact h
  | succ n ih =>
    cases h with
    | nil => exact .nil
    | cons _ r => exact ih r
theorem DtAll.take (n : Nat) (h : DtAll H vs ds) : DtAll H (vs.take n) (ds.take n) := by
  induction n generalizing vs ds with
  | zero => exact .nil
  | succ n ih =>
    cases h with
    | nil => exact .nil
    | cons h0 r => exact .cons h0 (ih r)
theorem DtAll.ints (l : List Int) : DtAll H (l.map V.int) (l.map PyData.int) := by
  induction l with
  | nil => exact .nil
  | cons a l ih => exact .cons (.int a) ih
theorem DtAll.ints_eq {l : List Int} (h : DtAll H vs (l.map PyData.int)) : vs = l.map V.int := by
  induction l generalizing vs with
  | nil => cases h; rfl
  | cons a l ih =>
    cases h with
    | cons h0 r => rw [Dt.int_eq h0, ih r]; rfl
end

/-! ### steps of a heap: F what never changes any more, H all; c the one list that draws change -/
def StOk (p : Addr) (F H : Hp) : Prop := F p = none ∧ ∃ (a b e : Int) (s : Addr) (l : List Int), H p = some (.lst [.int a, .int b, .ref s, .int e]) ∧ F s = some (.lst (l.map V.int)) ∧ 0 ≤ b
structure Wf (c : Option Addr) (F H : Hp) : Prop where
  s : Same F H
  q : ∀ p, c = some p → StOk p F H
structure Stp (c : Option Addr) (F H F1 H1 : Hp) : Prop where
  f : Same F F1
  h : ∀ b o, c ≠ some b → H b = some o → H1 b = some o
  n : ∀ b, F b = none → H b ≠ none → F1 b = none
  k : ∀ b, H b ≠ none → H1 b ≠ none
  w : Wf c F1 H1
section
variable {c : Option Addr} {F H F1 H1 F2 H2 : Hp}
theorem Stp.refl (w : Wf c F H) : Stp c F H F H := ⟨Same.refl F, fun _ _ _ e => e, fun _ e _ => e, fun _ e => e, w⟩
theorem Stp.trans (a : Stp c F H F1 H1) (b : Stp c F1 H1 F2 H2) : Stp c F H F2 H2 :=
  ⟨a.f.trans b.f, fun x o n e => b.h x o n (a.h x o n e), fun x n e => b.n x (a.n x n e) (a.k x e), fun x e => b.k x (a.k x e), b.w⟩
theorem Wf.nil (s : Same F H) : Wf none F H := ⟨s, fun _ e => by cases e⟩
theorem Wf.toNone (w : Wf c F H) : Wf none F H := Wf.nil w.s
/-- a step that knows of no draws is one that has made none -/
theorem Stp.any (a : Stp none F H F1 H1) (w : Wf c F H) : Stp c F H F1 H1 := by
  refine ⟨a.f, fun x o _ e => a.h x o (by simp) e, a.n, a.k, a.w.s, fun p e => ?_⟩
  obtain ⟨h1, x, y, z, s, l, h2, h3, h4⟩ := w.q p e
  exact ⟨a.n p h1 (by rw [h2]; simp), x, y, z, s, l, a.h _ _ (by simp) h2, a.f _ _ h3, h4⟩
theorem Wf.free {b : Addr} (w : Wf c F H) (e : H b = Option.none) : F b = Option.none := w.s.free e
theorem Wf.ne {b : Addr} (w : Wf c F H) (e : H b = Option.none) : c ≠ some b := fun z => by
  obtain ⟨_, x, y, u, s, l, h2, _⟩ := w.q b z
  rw [h2] at e
  cases e
theorem same_new {b : Addr} {o : HO} (e : H b = Option.none) : Same H (upd H b o) := fun x u q => by
  rw [upd_ne (ne_of_none q e)]
  exact q
theorem same_both {b : Addr} {o : HO} (s : Same F H) : Same (upd F b o) (upd H b o) := fun x u q => by
  by_cases z : x = b
  · subst z
    rw [upd_same] at q ⊢
    exact q
  · rw [upd_ne z] at q ⊢
    exact s x u q
/-- a new object that never changes -/
theorem Stp.new {b : Addr} {o : HO} (w : Wf c F H) (e : H b = Option.none) : Stp c F H (upd F b o) (upd H b o) := by
  have eF := w.free e
  refine ⟨same_new eF, fun x u _ q => same_new e x u q, fun x q z => ?_, fun x q => ?_, same_both w.s, fun p z => ?_⟩
  · have nb : x ≠ b := fun y => by subst y; exact z e
    rw [upd_ne nb]
    exact q
  · have nb : x ≠ b := fun y => by subst y; exact q e
    rw [upd_ne nb]
    exact q
  · obtain ⟨h1, x, y, u, s, l, h2, h3, h4⟩ := w.q p z
    have nb : p ≠ b := fun y => by subst y; rw [h2] at e; cases e
    exact ⟨by rw [upd_ne nb]; exact h1, x, y, u, s, l, by rw [upd_ne nb]; exact h2, same_new eF _ _ h3, h4⟩
/-- a new object that may change -/
theorem Stp.cell {b : Addr} {o : HO} (w : Wf c F H) (e : H b = Option.none) : Stp c F H F (upd H b o) := by
  refine ⟨Same.refl F, fun x u _ q => same_new e x u q, fun x q _ => q, fun x q => ?_, w.s.trans (same_new e), fun p z => ?_⟩
  · have nb : x ≠ b := fun y => by subst y; exact q e
    rw [upd_ne nb]
    exact q
  · obtain ⟨h1, x, y, u, s, l, h2, h3, h4⟩ := w.q p z
    have nb : p ≠ b := fun y => by subst y; rw [h2] at e; cases e
    exact ⟨h1, x, y, u, s, l, by rw [upd_ne nb]; exact h2, h3, h4⟩
/-- an object younger than the base is changed -/
theorem Stp.put {b : Addr} {o : HO} (a : Stp c F H F1 H1) (e : H b = Option.none) (eF : F1 b = Option.none) (n : c ≠ some b) : Stp c F H F1 (upd H1 b o) := by
  refine ⟨a.f, fun x u nx q => ?_, a.n, fun x q => ?_, fun x u q => ?_, fun p z => ?_⟩
  · have nb : x ≠ b := fun y => by subst y; rw [q] at e; cases e
    rw [upd_ne nb]
    exact a.h x u nx q
  · have nb : x ≠ b := fun y => by subst y; exact q e
    rw [upd_ne nb]
    exact a.k x q
  · have nb : x ≠ b := fun y => by subst y; rw [q] at eF; cases eF
    rw [upd_ne nb]
    exact a.w.s x u q
  · obtain ⟨h1, x, y, u, s, l, h2, h3, h4⟩ := a.w.q p z
    have nb : p ≠ b := fun y => by subst y; exact n z
    exact ⟨h1, x, y, u, s, l, by rw [upd_ne nb]; exact h2, h3, h4⟩
/-- an object younger than the base will never change again -/
theorem Stp.frz {b : Addr} {o : HO} (a : Stp c F H F1 H1) (e : H b = Option.none) (eF : F1 b = Option.none) (eH : H1 b = some o) (n : c ≠ some b) : Stp c F H (upd F1 b o) H1 := by
  refine ⟨a.f.trans (same_new eF), a.h, fun x q z => ?_, a.k, fun x u q => ?_, fun p z => ?_⟩
  · have nb : x ≠ b := fun y => by subst y; exact z e
    rw [upd_ne nb]
    exact a.n x q z
  · by_cases nb : x = b
    · subst nb
      rw [upd_same] at q
      cases q
      exact eH
    · rw [upd_ne nb] at q
      exact a.w.s x u q
  · obtain ⟨h1, x, y, u, s, l, h2, h3, h4⟩ := a.w.q p z
    have nb : p ≠ b := fun y => by subst y; exact n z
    exact ⟨by rw [upd_ne nb]; exact h1, x, y, u, s, l, h2, same_new eF _ _ h3, h4⟩
end

/-! ### what a slot holds -/
inductive Sl where
  | o (P : Hp → V → Prop)
  | l (ds : List PyData)
  | k (kvs : List (L2.Key × V))
  | t (kvs : List (List L2.Key × V))
  | s
  | u
def IsD (d : PyData) : Hp → V → Prop := fun F v => Dt F v d
abbrev Sl.d (x : PyData) : Sl := .o (IsD x)
def IsV (x : V) : Hp → V → Prop := fun _ v => v = x
def IsX {α : Type} (G : α → Prop) (f : α → PyData) : Hp → V → Prop := fun F v => ∃ x, G x ∧ Dt F v (f x)
class Mn (P : Hp → V → Prop) : Prop where
  up : ∀ F F' v, Same F F' → P F v → P F' v
instance (d : PyData) : Mn (IsD d) := ⟨fun _ _ v e h => Dt.up e d v h⟩
instance (x : V) : Mn (IsV x) := ⟨fun _ _ _ _ h => h⟩
instance {α : Type} (G : α → Prop) (f : α → PyData) : Mn (IsX G f) := ⟨fun _ _ v e ⟨x, g, h⟩ => ⟨x, g, Dt.up e _ v h⟩⟩
def Sl.isC : Sl → Bool
  | .l _ => true
  | .k _ => true
  | .t _ => true
  | _ => false
def ClOk (F H : Hp) (l : Addr) : Sl → Prop
  | .l ds => ∃ xs, H l = some (.lst xs) ∧ DtAll F xs ds
  | .k kvs => H l = some (.dK kvs)
  | .t kvs => H l = some (.dT kvs)
  | _ => False
def SlOk (c : Option Addr) (F H : Hp) (ov : Option V) : Sl → Prop
  | .o P => ∃ v, ov = some v ∧ ∀ F', Same F F' → P F' v
  | .s => ∃ p, c = some p ∧ ov = some (.ref p)
  | .u => True
  | x => ∃ l, ov = some (.ref l) ∧ F l = none ∧ c ≠ some l ∧ ClOk F H l x
structure Env (c : Option Addr) (F H : Hp) (σ : L2.St) (Γ : List Sl) : Prop where
  len : σ.length = Γ.length
  ok : ∀ (i : Nat) (s : Sl), Γ[i]? = some s → ∃ ov, σ[i]? = some ov ∧ SlOk c F H ov s
  ap : ∀ (i j : Nat) (s1 s2 : Sl) (l : Addr), Γ[i]? = some s1 → Γ[j]? = some s2 → s1.isC = true → s2.isC = true → σ[i]? = some (some (.ref l)) → σ[j]? = some (some (.ref l)) → i = j
section
variable {c : Option Addr} {F H F1 H1 F2 H2 : Hp} {σ : L2.St} {Γ : List Sl} {l : Addr} {x : Sl} {ov : Option V}
theorem SlOk.cell (h : SlOk c F H ov x) (e : x.isC = true) : ∃ l, ov = some (.ref l) ∧ F l = none ∧ c ≠ some l ∧ ClOk F H l x := by
  cases x <;> first | exact h | cases e
theorem SlOk.mk (e : x.isC = true) (h : F l = none) (n : c ≠ some l) (k : ClOk F H l x) : SlOk c F H (some (.ref l)) x := by
  cases x <;> first | exact ⟨l, rfl, h, n, k⟩ | cases e
theorem ClOk.there (h : ClOk F H l x) : H l ≠ none := by
  cases x with
  | l ds => obtain ⟨xs, e, _⟩ := h; rw [e]; simp
  | k kvs => have h : H l = some (.dK kvs) := h; rw [h]; simp
  | t kvs => have h : H l = some (.dT kvs) := h; rw [h]; simp
  | o P => exact h.elim
  | s => exact h.elim
  | u => exact h.elim
theorem ClOk.up (f : Same F F1) (h : ∀ o, H l = some o → H1 l = some o) (k : ClOk F H l x) : ClOk F1 H1 l x := by
  cases x with
  | l ds => obtain ⟨xs, e, r⟩ := k; exact ⟨xs, h _ e, DtAll.up f ds xs r⟩
  | k kvs => exact h _ k
  | t kvs => exact h _ k
  | o P => exact k
  | s => exact k
  | u => exact k
theorem SlOk.step (a : Stp c F H F1 H1) (h : SlOk c F H ov x) : SlOk c F1 H1 ov x := by
  by_cases e : x.isC = true
  · obtain ⟨l, e1, e2, e3, k⟩ := h.cell e
    subst e1
    exact SlOk.mk e (a.n l e2 k.there) e3 (k.up a.f fun o q => a.h l o e3 q)
  · cases x with
    | o P => obtain ⟨v, e1, q⟩ := h; exact ⟨v, e1, fun F' s => q F' (a.f.trans s)⟩
    | s => exact h
    | u => exact h
    | l _ => exact absurd rfl e
    | k _ => exact absurd rfl e
    | t _ => exact absurd rfl e
theorem Env.step (E : Env c F H σ Γ) (a : Stp c F H F1 H1) : Env c F1 H1 σ Γ :=
  ⟨E.len, fun i s e => let ⟨ov, e1, h⟩ := E.ok i s e; ⟨ov, e1, h.step a⟩, E.ap⟩
/-- another object is changed: all slots stay -/
theorem Env.other {b : Addr} {o : HO} (E : Env c F H σ Γ) (n : ∀ (i : Nat) s, Γ[i]? = some s → s.isC = true → σ[i]? ≠ some (some (.ref b))) : Env c F (upd H b o) σ Γ := by
  refine ⟨E.len, fun i s e => ?_, E.ap⟩
  obtain ⟨ov, e1, h⟩ := E.ok i s e
  refine ⟨ov, e1, ?_⟩
  by_cases z : s.isC = true
  · obtain ⟨l, q1, q2, q3, k⟩ := h.cell z
    have nb : l ≠ b := fun y => by subst y; subst q1; exact n i s e z e1
    subst q1
    exact SlOk.mk z q2 q3 (k.up (Same.refl F) fun u q => by rw [upd_ne nb]; exact q)
  · cases s with
    | o P => exact h
    | s => exact h
    | u => exact h
    | l _ => exact absurd rfl z
    | k _ => exact absurd rfl z
    | t _ => exact absurd rfl z
/-- a slot is stored: no cell -/
theorem Env.set {i : Nat} {v : V} (E : Env c F H σ Γ) (h : SlOk c F H (some v) x) (hx : x.isC = true → ∀ (j : Nat) s, Γ[j]? = some s → s.isC = true → σ[j]? = some (some v) → i = j) : Env c F H (σ.set i (some v)) (Γ.set i x) := by
  refine ⟨by simpa using E.len, fun j s e => ?_, fun j k s1 s2 l e1 e2 c1 c2 h1 h2 => ?_⟩
  · by_cases z : i = j
    · subst z
      by_cases y : i < Γ.length
      · rw [List.getElem?_set_self y] at e
        cases e
        exact ⟨some v, List.getElem?_set_self (by rw [E.len]; exact y), h⟩
      · rw [List.getElem?_eq_none (by simpa using y)] at e
        cases e
    · rw [List.getElem?_set_ne z] at e ⊢
      exact E.ok j s e
  · by_cases z1 : i = j <;> by_cases z2 : i = k
    · rw [← z1, ← z2]
    · subst z1
      have y : i < Γ.length := by
        by_cases y : i < Γ.length
        · exact y
        · rw [List.getElem?_eq_none (by simpa using y)] at e1; cases e1
      rw [List.getElem?_set_self y] at e1
      rw [List.getElem?_set_self (by rw [E.len]; exact y)] at h1
      rw [List.getElem?_set_ne z2] at e2 h2
      cases e1
      cases h1
      exact hx c1 k s2 e2 c2 h2
    · subst z2
      have y : i < Γ.length := by
        by_cases y : i < Γ.length
        · exact y
        · rw [List.getElem?_eq_none (by simpa using y)] at e2; cases e2
      rw [List.getElem?_set_self y] at e2
      rw [List.getElem?_set_self (by rw [E.len]; exact y)] at h2
      rw [List.getElem?_set_ne z1] at e1 h1
      cases e2
      cases h2
      exact (hx c2 j s1 e1 c1 h1).symm
    · rw [List.getElem?_set_ne z1] at e1 h1
      rw [List.getElem?_set_ne z2] at e2 h2
      exact E.ap j k s1 s2 l e1 e2 c1 c2 h1 h2
theorem Env.setO {i : Nat} {v : V} {P : Hp → V → Prop} (E : Env c F H σ Γ) (h : ∀ F', Same F F' → P F' v) : Env c F H (σ.set i (some v)) (Γ.set i (.o P)) :=
  E.set ⟨v, rfl, h⟩ fun z => by cases z
theorem Env.setD {i : Nat} {v : V} {d : PyData} (E : Env c F H σ Γ) (h : Dt F v d) : Env c F H (σ.set i (some v)) (Γ.set i (.d d)) :=
  E.setO fun _ s => Dt.up s d v h
/-- slots forgotten -/
def wipeG (Γ : List Sl) : List Nat → List Sl
  | [] => Γ
  | v :: vs => (wipeG Γ vs).set v .u
theorem Env.wipe1 {i : Nat} (E : Env c F H σ Γ) : Env c F H (σ.set i none) (Γ.set i .u) := by
  refine ⟨by simpa using E.len, fun j s e => ?_, fun j k s1 s2 l e1 e2 c1 c2 h1 h2 => ?_⟩
  · by_cases z : i = j
    · subst z
      by_cases y : i < Γ.length
      · rw [List.getElem?_set_self y] at e
        cases e
        exact ⟨none, List.getElem?_set_self (by rw [E.len]; exact y), True.intro⟩
      · rw [List.getElem?_eq_none (by simpa using y)] at e
        cases e
    · rw [List.getElem?_set_ne z] at e ⊢
      exact E.ok j s e
  · have n : ∀ {m : Nat} {s : Sl}, (Γ.set i Sl.u)[m]? = some s → s.isC = true → i ≠ m := fun {m s} e q z => by
      subst z
      by_cases y : i < Γ.length
      · rw [List.getElem?_set_self y] at e
        cases e
        cases q
      · rw [List.getElem?_eq_none (by simpa using y)] at e
        cases e
    have z1 := n e1 c1
    have z2 := n e2 c2
    rw [List.getElem?_set_ne z1] at e1 h1
    rw [List.getElem?_set_ne z2] at e2 h2
    exact E.ap j k s1 s2 l e1 e2 c1 c2 h1 h2
theorem Env.wipe (E : Env c F H σ Γ) : ∀ vs, Env c F H (wipe σ vs) (wipeG Γ vs)
  | [] => E
  | v :: vs => (Env.wipe E vs).wipe1
theorem wipe_get {σ : L2.St} : ∀ {vs : List Nat} {i : Nat}, i ∈ vs → ∀ x, (L2.wipe σ vs).set i none = L2.wipe σ vs ∧ (i < σ.length → (L2.wipe σ vs)[i]? = some none) ∧ ((L2.wipe σ vs).set i x).length = σ.length
  | [], i, h, _ => by simp at h
  | v :: vs, i, h, x => by
    refine ⟨?_, fun hl => ?_, by rw [List.length_set, wipe_length]⟩
    · show ((L2.wipe σ vs).set v none).set i none = (L2.wipe σ vs).set v none
      by_cases z : v = i
      · subst z
        exact List.set_set ..
      · have hm : i ∈ vs := by
          rcases List.mem_cons.mp h with e | e
          · exact absurd e.symm z
          · exact e
        rw [List.set_comm _ _ z, (wipe_get (σ := σ) hm none).1]
    · show ((L2.wipe σ vs).set v none)[i]? = some none
      by_cases z : v = i
      · subst z
        exact List.getElem?_set_self (by rw [wipe_length]; exact hl)
      · have hm : i ∈ vs := by
          rcases List.mem_cons.mp h with e | e
          · exact absurd e.symm z
          · exact e
        rw [List.getElem?_set_ne z]
        exact (wipe_get (σ := σ) hm none).2.1 hl
theorem wipe_set {τ : L2.St} {i : Nat} {x : Option V} : ∀ {vs : List Nat}, i ∈ vs → L2.wipe (τ.set i x) vs = L2.wipe τ vs
  | [], h => by simp at h
  | v :: vs, h => by
    show (L2.wipe (τ.set i x) vs).set v none = (L2.wipe τ vs).set v none
    by_cases hm : i ∈ vs
    · rw [wipe_set hm]
    · have e : v = i := by
        rcases List.mem_cons.mp h with e | e
        · exact e.symm
        · exact absurd e hm
      subst e
      have q : ∀ (us : List Nat), v ∉ us → L2.wipe (τ.set v x) us = (L2.wipe τ us).set v x := fun us => by
        induction us with
        | nil => intro _; rfl
        | cons u us ih =>
          intro hu
          have h1 : v ≠ u := fun z => hu (by simp [z])
          have h2 : v ∉ us := fun z => hu (by simp [z])
          show (L2.wipe (τ.set v x) us).set u none = ((L2.wipe τ us).set u none).set v x
          rw [ih h2, List.set_comm _ _ h1]
      rw [q vs hm, List.set_set]
theorem wipe_wipe {σ : L2.St} (vs : List Nat) : L2.wipe (L2.wipe σ vs) vs = L2.wipe σ vs := by
  have q : ∀ us : List Nat, (∀ i ∈ us, i ∈ vs) → L2.wipe (L2.wipe σ vs) us = L2.wipe σ vs := fun us => by
    induction us with
    | nil => intro _; rfl
    | cons u us ih =>
      intro h
      show (L2.wipe (L2.wipe σ vs) us).set u none = L2.wipe σ vs
      rw [ih (fun i hi => h i (List.mem_cons_of_mem _ hi))]
      exact (wipe_get (h u (List.mem_cons_self ..)) none).1
  exact q vs fun _ h => h
end
end KK
/-! K12B: expressions of the layer. -/
namespace KK
open PySem PySem.Spec PyProof.Rows L2

abbrev dI (n : Nat) : PyData := .int (n : Int)

theorem dt_n {F : Hp} {n : Nat} {x : Int} (h : x = (n : Int)) : Dt F (.int x) (dI n) := by
  subst h
  exact .int _

/-! ### judgements -/
def Ev (c : Option Addr) (Γ : List Sl) (te : TE) (P : Hp → V → Prop) : Prop := ∀ F H σ, Wf c F H → Env c F H σ Γ → ∀ Q : VK, (∀ v F2 H2, Stp c F H F2 H2 → P F2 v → Q v H2) → te σ H Q
abbrev EvD (c : Option Addr) (Γ : List Sl) (te : TE) (d : PyData) : Prop := Ev c Γ te (IsD d)
def EvT (c : Option Addr) (Γ : List Sl) (t : TT) (b : Bool) : Prop := ∀ F H σ, Wf c F H → Env c F H σ Γ → ∀ Q : Bool → Hp → Prop, (∀ F2 H2, Stp c F H F2 H2 → Q b H2) → t σ H Q
def All2 (F : Hp) : List (Hp → V → Prop) → List V → Prop
  | [], [] => True
  | P :: Ps, v :: vs => P F v ∧ All2 F Ps vs
  | _, _ => False
def EvA (c : Option Addr) (Γ : List Sl) (ta : TA) (Ps : List (Hp → V → Prop)) : Prop := ∀ F H σ, Wf c F H → Env c F H σ Γ → ∀ Q : List V → Hp → Prop, (∀ vs F2 H2, Stp c F H F2 H2 → All2 F2 Ps vs → Q vs H2) → ta σ H Q
section
variable {c : Option Addr} {Γ : List Sl} {te ta tb tx : TE} {t u : TT} {P P' R : Hp → V → Prop} {Ps : List (Hp → V → Prop)} {K : PySem.W.Frag} {i j : Nat} {d e : PyData} {ds es : List PyData}
theorem all2_nil {F : Hp} {vs : List V} (h : All2 F [] vs) : vs = [] := by cases vs <;> first | rfl | cases h
theorem all2_cons {F : Hp} {vs : List V} (h : All2 F (P :: Ps) vs) : ∃ v r, vs = v :: r ∧ P F v ∧ All2 F Ps r := by
  cases vs with
  | nil => cases h
  | cons v r => exact ⟨v, r, rfl, h.1, h.2⟩
theorem all2_one {F : Hp} {vs : List V} (h : All2 F [P] vs) : ∃ v, vs = [v] ∧ P F v := by
  obtain ⟨v, r, rfl, h1, h2⟩ := all2_cons h
  rw [all2_nil h2]
  exact ⟨v, rfl, h1⟩
theorem all2_two {F : Hp} {vs : List V} (h : All2 F [P, P'] vs) : ∃ v v', vs = [v, v'] ∧ P F v ∧ P' F v' := by
  obtain ⟨v, r, rfl, h1, h2⟩ := all2_cons h
  obtain ⟨v', rfl, h3⟩ := all2_one h2
  exact ⟨v, v', rfl, h1, h3⟩
theorem all2_data {F : Hp} : ∀ {ds : List PyData} {vs : List V}, All2 F (ds.map IsD) vs → DtAll F vs ds
  | [], vs, h => by rw [all2_nil h]; exact .nil
  | d :: ds, vs, h => by
    obtain ⟨v, r, rfl, h1, h2⟩ := all2_cons (P := IsD d) (Ps := ds.map IsD) h
    exact .cons h1 (all2_data h2)

theorem Ev.imp (h : Ev c Γ te P) (g : ∀ F v, P F v → P' F v) : Ev c Γ te P' := fun F H σ w E Q q => h F H σ w E Q fun v F2 H2 s p => q v F2 H2 s (g _ _ p)
theorem Ev.to (h : EvD c Γ te d) (g : d = e) : EvD c Γ te e := by rw [← g]; exact h
theorem EvT.to {a b : Bool} (h : EvT c Γ t a) (g : a = b) : EvT c Γ t b := by rw [← g]; exact h
theorem Ev.x {α : Type} {G : α → Prop} {f : α → PyData} {x : α} (h : EvD c Γ te (f x)) (g : G x) : Ev c Γ te (IsX G f) := h.imp fun _ _ p => ⟨x, g, p⟩

/-! ### names, constants -/
theorem ev_var (i : Nat) (h : Γ[i]? = some (.o P) := by rfl) : Ev c Γ (tVar i) P := fun F H σ w E Q q => by
  obtain ⟨ov, e1, v, rfl, p⟩ := E.ok i _ h
  exact ⟨v, e1, q v F H (Stp.refl w) (p F (Same.refl F))⟩
theorem ev_int {i : Int} (h : d = .int i := by rfl) : EvD c Γ (tC (.int i)) d := fun F H σ w E Q q => by
  subst h
  exact q _ F H (Stp.refl w) (.int i)
theorem ev_n (n : Nat) {i : Int} (h : i = (n : Int) := by rfl) : EvD c Γ (tC (.int i)) (dI n) := by
  subst h
  exact ev_int
theorem ev_bl {b : Bool} : EvD c Γ (tC (.bl b)) (.bool b) := fun F H σ w E Q q => q _ F H (Stp.refl w) (.bl b)

/-! ### two operands -/
theorem ev_op [Mn P] {r : R2} (ha : Ev c Γ ta P) (hb : Ev c Γ tb P')
    (hr : ∀ F H x y, Wf c F H → P F x → P' F y → ∀ Q : VK, (∀ v F2 H2, Stp c F H F2 H2 → R F2 v → Q v H2) → r x y H Q) : Ev c Γ (tOp r ta tb) R := fun F H σ w E Q q => by
  refine ha F H σ w E _ fun x F1 H1 s1 p1 => ?_
  refine hb F1 H1 σ s1.w (E.step s1) _ fun y F2 H2 s2 p2 => ?_
  exact hr F2 H2 x y s2.w (Mn.up _ _ _ s2.f p1) p2 Q fun v F3 H3 s3 p3 => q v F3 H3 ((s1.trans s2).trans s3) p3
theorem ev_opI {g : Int → Int → V} {x y : Int} (ha : EvD c Γ ta (.int x)) (hb : EvD c Γ tb (.int y)) (hd : ∀ F, Dt F (g x y) d) : EvD c Γ (tOp (rI0 g) ta tb) d := by
  refine ev_op ha hb fun F H v u w p1 p2 Q q => ?_
  rw [Dt.int_eq p1, Dt.int_eq p2]
  exact ⟨x, y, rfl, rfl, q _ F H (Stp.refl w) (hd F)⟩
theorem ev_opC {C : Int → Int → Prop} {g : Int → Int → V} {x y : Int} (ha : EvD c Γ ta (.int x)) (hb : EvD c Γ tb (.int y)) (hc : C x y) (hd : ∀ F, Dt F (g x y) d) : EvD c Γ (tOp (rI C g) ta tb) d := by
  refine ev_op ha hb fun F H v u w p1 p2 Q q => ?_
  rw [Dt.int_eq p1, Dt.int_eq p2]
  exact ⟨x, y, rfl, rfl, hc, q _ F H (Stp.refl w) (hd F)⟩
theorem ev_add (ha : EvD c Γ ta (dI i)) (hb : EvD c Γ tb (dI j)) : EvD c Γ (tOp (rI0 fun i j => .int (i + j)) ta tb) (dI (i + j)) :=
  ev_opI ha hb fun F => dt_n (by omega)
theorem ev_sub (ha : EvD c Γ ta (dI i)) (hb : EvD c Γ tb (dI j)) (h : j ≤ i) : EvD c Γ (tOp (rI0 fun i j => .int (i - j)) ta tb) (dI (i - j)) :=
  ev_opI ha hb fun F => dt_n (by omega)
theorem ev_mul (ha : EvD c Γ ta (dI i)) (hb : EvD c Γ tb (dI j)) (h : j < 2 ^ 64) : EvD c Γ (tOp (rI CMul fun i j => .int (i * j)) ta tb) (dI (i * j)) :=
  ev_opC ha hb (.inr ⟨by omega, by omega⟩) fun F => dt_n (Int.natCast_mul ..).symm
theorem ev_mod (ha : EvD c Γ ta (dI i)) (hb : EvD c Γ tb (dI j)) (h : 0 < j) : EvD c Γ (tOp (rI (fun _ j => j ≠ 0) fun i j => .int (i.fmod j)) ta tb) (dI (i % j)) :=
  ev_opC ha hb (by omega) fun F => by
    rw [Int.fmod_eq_emod_of_nonneg _ (by omega : (0 : Int) ≤ (j : Int))]
    exact dt_n (Int.natCast_emod ..).symm
theorem dec_int (a b : Nat) : decide (V.int (a : Int) = V.int (b : Int)) = decide (a = b) := by
  by_cases h : a = b
  · subst h; simp
  · rw [decide_eq_false h]
    exact decide_eq_false fun z => h (by injection z with z; omega)
theorem ev_eq (ha : EvD c Γ ta (dI i)) (hb : EvD c Γ tb (dI j)) : EvD c Γ (tOp rEq ta tb) (.bool (decide (i = j))) := by
  refine ev_op ha hb fun F H v u w p1 p2 Q q => ?_
  rw [Dt.int_eq p1, Dt.int_eq p2]
  refine ⟨rfl, q _ F H (Stp.refl w) ?_⟩
  rw [dec_int]
  exact .bl _
theorem ev_ne (ha : EvD c Γ ta (dI i)) (hb : EvD c Γ tb (dI j)) : EvD c Γ (tOp rNe ta tb) (.bool (!decide (i = j))) := by
  refine ev_op ha hb fun F H v u w p1 p2 Q q => ?_
  rw [Dt.int_eq p1, Dt.int_eq p2]
  refine ⟨rfl, q _ F H (Stp.refl w) ?_⟩
  rw [dec_int]
  exact .bl _
theorem ev_neB {a b : Bool} (ha : EvD c Γ ta (.bool a)) (hb : EvD c Γ tb (.bool b)) : EvD c Γ (tOp rNe ta tb) (.bool (!decide (a = b))) := by
  refine ev_op ha hb fun F H v u w p1 p2 Q q => ?_
  rw [Dt.bl_eq p1, Dt.bl_eq p2]
  refine ⟨rfl, q _ F H (Stp.refl w) ?_⟩
  have h : decide (V.bl a = V.bl b) = decide (a = b) := by cases a <;> cases b <;> rfl
  rw [h]
  exact .bl _
theorem ev_lt (ha : EvD c Γ ta (dI i)) (hb : EvD c Γ tb (dI j)) : EvD c Γ (tOp (rI0 fun i j => .bl (decide (i < j))) ta tb) (.bool (decide (i < j))) :=
  ev_opI ha hb fun F => by
    rw [show decide ((i : Int) < (j : Int)) = decide (i < j) from by simp]
    exact .bl _
theorem ev_gt (ha : EvD c Γ ta (dI i)) (hb : EvD c Γ tb (dI j)) : EvD c Γ (tOp (rI0 fun i j => .bl (decide (j < i))) ta tb) (.bool (decide (j < i))) :=
  ev_opI ha hb fun F => by
    rw [show decide ((j : Int) < (i : Int)) = decide (j < i) from by simp]
    exact .bl _
theorem ev_ge (ha : EvD c Γ ta (dI i)) (hb : EvD c Γ tb (dI j)) : EvD c Γ (tOp (rI0 fun i j => .bl (decide (j ≤ i))) ta tb) (.bool (decide (j ≤ i))) :=
  ev_opI ha hb fun F => by
    rw [show decide ((j : Int) ≤ (i : Int)) = decide (j ≤ i) from by simp]
    exact .bl _

/-! ### tests -/
theorem et_test {b : Bool} (h : EvD c Γ te (.bool b)) : EvT c Γ (tTest te) b := fun F H σ w E Q q => h F H σ w E _ fun v F2 H2 s p => ⟨b, Dt.bl_eq p, q F2 H2 s⟩
theorem et_B {b : Bool} (h : EvD c Γ te (.bool b)) : EvT c Γ (tB te) b := fun F H σ w E Q q => h F H σ w E _ fun v F2 H2 s p => ⟨b, Dt.bl_eq p, q F2 H2 s⟩
theorem et_and {a b : Bool} (h1 : EvT c Γ t a) (h2 : a = true → EvT c Γ u b) : EvT c Γ (tAnd t u) (a && b) := fun F H σ w E Q q => h1 F H σ w E _ fun F1 H1 s1 => by
  cases a with
  | true => exact iteT (h2 rfl F1 H1 σ s1.w (E.step s1) Q fun F2 H2 s2 => q F2 H2 (s1.trans s2))
  | false => exact iteF (q F1 H1 s1)
theorem ev_andV {a b : Bool} (h1 : EvD c Γ ta (.bool a)) (h2 : a = true → EvD c Γ tb (.bool b)) : EvD c Γ (tAndV ta tb) (.bool (a && b)) := fun F H σ w E Q q => h1 F H σ w E _ fun v F1 H1 s1 p => ⟨a, Dt.bl_eq p, by
  cases a with
  | true => exact iteT (h2 rfl F1 H1 σ s1.w (E.step s1) Q fun v2 F2 H2 s2 p2 => q v2 F2 H2 (s1.trans s2) p2)
  | false => exact iteF (q _ F1 H1 s1 (.bl false))⟩
theorem ev_if {b : Bool} (h : EvT c Γ t b) (h1 : b = true → Ev c Γ ta P) (h2 : b = false → Ev c Γ tb P) : Ev c Γ (tIf t ta tb) P := fun F H σ w E Q q => h F H σ w E _ fun F1 H1 s1 => by
  cases b with
  | true => exact iteT (h1 rfl F1 H1 σ s1.w (E.step s1) Q fun v F2 H2 s2 p => q v F2 H2 (s1.trans s2) p)
  | false => exact iteF (h2 rfl F1 H1 σ s1.w (E.step s1) Q fun v F2 H2 s2 p => q v F2 H2 (s1.trans s2) p)
theorem et_yes : EvT c Γ tYes true := fun F H σ w E Q q => q F H (Stp.refl w)

/-! ### arguments, tuples, lists -/
theorem ea_nil : EvA c Γ tNil [] := fun F H σ w E Q q => q [] F H (Stp.refl w) True.intro
theorem ea_cons [Mn P] {tr : TA} (h : Ev c Γ ta P) (hr : EvA c Γ tr Ps) : EvA c Γ (tCons ta tr) (P :: Ps) := fun F H σ w E Q q => by
  refine h F H σ w E _ fun v F1 H1 s1 p1 => ?_
  exact hr F1 H1 σ s1.w (E.step s1) _ fun vs F2 H2 s2 p2 => q (v :: vs) F2 H2 (s1.trans s2) ⟨Mn.up _ _ _ s2.f p1, p2⟩
theorem ea_1 [Mn P] (h : Ev c Γ ta P) : EvA c Γ (tCons ta tNil) [P] := ea_cons h ea_nil
theorem ea_2 [Mn P] [Mn P'] (h : Ev c Γ ta P) (h2 : Ev c Γ tb P') : EvA c Γ (tCons ta (tCons tb tNil)) [P, P'] := ea_cons h (ea_1 h2)
theorem ea_3 [Mn P] [Mn P'] [Mn R] (h : Ev c Γ ta P) (h2 : Ev c Γ tb P') (h3 : Ev c Γ tx R) : EvA c Γ (tCons ta (tCons tb (tCons tx tNil))) [P, P', R] := ea_cons h (ea_2 h2 h3)
theorem sz_ok {n : Nat} (h : n ≤ 100000) : n ≤ sizeLine := Nat.le_trans h (by decide)
theorem ev_tupA {tr : TA} (h : EvA c Γ tr (ds.map IsD)) (hl : ds.length ≤ 100000) : EvD c Γ (tTup tr) (.tuple ds) := fun F H σ w E Q q => h F H σ w E _ fun vs F1 H1 s1 p => by
  have r := all2_data p
  refine ⟨sz_ok (by rw [r.len]; exact hl), fun b hb => ?_⟩
  exact q _ (upd F1 b (.tup vs)) _ (s1.trans (Stp.new s1.w hb)) (.tup upd_same (DtAll.up (same_new (s1.w.free hb)) ds vs r))
theorem ev_lstA {tr : TA} (h : EvA c Γ tr (ds.map IsD)) (hl : ds.length ≤ 100000) : EvD c Γ (tLst tr) (.list ds) := fun F H σ w E Q q => h F H σ w E _ fun vs F1 H1 s1 p => by
  have r := all2_data p
  refine ⟨sz_ok (by rw [r.len]; exact hl), fun b hb => ?_⟩
  exact q _ (upd F1 b (.lst vs)) _ (s1.trans (Stp.new s1.w hb)) (.lst upd_same (DtAll.up (same_new (s1.w.free hb)) ds vs r))
theorem ev_t0 : EvD c Γ (tTup tNil) (.tuple []) := ev_tupA (ds := []) ea_nil (Nat.zero_le _)
theorem ev_t1 (h : EvD c Γ ta d) : EvD c Γ (tTup (tCons ta tNil)) (.tuple [d]) := ev_tupA (ds := [d]) (ea_1 h) (by simp)
theorem ev_t2 (h : EvD c Γ ta d) (h2 : EvD c Γ tb e) : EvD c Γ (tTup (tCons ta (tCons tb tNil))) (.tuple [d, e]) := ev_tupA (ds := [d, e]) (ea_2 h h2) (by simp)
theorem ev_t3 {f : PyData} (h : EvD c Γ ta d) (h2 : EvD c Γ tb e) (h3 : EvD c Γ tx f) : EvD c Γ (tTup (tCons ta (tCons tb (tCons tx tNil)))) (.tuple [d, e, f]) := ev_tupA (ds := [d, e, f]) (ea_3 h h2 h3) (by simp)
theorem ev_l0 : EvD c Γ (tLst tNil) (.list []) := ev_lstA (ds := []) ea_nil (Nat.zero_le _)
theorem ev_l1 (h : EvD c Γ ta d) : EvD c Γ (tLst (tCons ta tNil)) (.list [d]) := ev_lstA (ds := [d]) (ea_1 h) (by simp)
theorem ev_l2 (h : EvD c Γ ta d) (h2 : EvD c Γ tb e) : EvD c Γ (tLst (tCons ta (tCons tb tNil))) (.list [d, e]) := ev_lstA (ds := [d, e]) (ea_2 h h2) (by simp)
theorem ev_l3 {f : PyData} (h : EvD c Γ ta d) (h2 : EvD c Γ tb e) (h3 : EvD c Γ tx f) : EvD c Γ (tLst (tCons ta (tCons tb (tCons tx tNil)))) (.list [d, e, f]) := ev_lstA (ds := [d, e, f]) (ea_3 h h2 h3) (by simp)

/-! ### subscripts -/
theorem ev_ixT (ha : EvD c Γ ta (.tuple ds)) (hb : EvD c Γ tb (dI i)) (hd : ds[i]? = some d) : EvD c Γ (tOp (rIx K) ta tb) d := by
  refine ev_op ha hb fun F H v u w p1 p2 Q q => ?_
  obtain ⟨a, xs, rfl, h, r⟩ := Dt.tup_ex p1
  obtain ⟨x, h1, h2⟩ := r.get hd
  rw [Dt.int_eq p2]
  exact .inr (.inl ⟨a, xs, _, x, rfl, rfl, SqT.of (w.s _ _ h), atI_nat h1, q _ F H (Stp.refl w) h2⟩)
theorem ev_ixL (ha : EvD c Γ ta (.list ds)) (hb : EvD c Γ tb (dI i)) (hd : ds[i]? = some d) : EvD c Γ (tOp (rIx K) ta tb) d := by
  refine ev_op ha hb fun F H v u w p1 p2 Q q => ?_
  obtain ⟨a, xs, rfl, h, r⟩ := Dt.lst_ex p1
  obtain ⟨x, h1, h2⟩ := r.get hd
  rw [Dt.int_eq p2]
  exact .inl ⟨a, xs, _, x, rfl, rfl, SqL.of (w.s _ _ h), atI_nat h1, q _ F H (Stp.refl w) h2⟩
theorem ev_neg {x : Int} (ha : EvD c Γ ta (.int x)) : EvD c Γ (tUn (rU fun i => .int (-i)) ta) (.int (-x)) := fun F H σ w E Q q => ha F H σ w E _ fun v F1 H1 s1 p => ⟨x, Dt.int_eq p, q _ F1 H1 s1 (.int _)⟩
theorem ev_lastL (ha : EvD c Γ ta (.list (ds ++ [d]))) (hb : EvD c Γ tb (.int (-1))) : EvD c Γ (tOp (rIx K) ta tb) d := by
  refine ev_op ha hb fun F H v u w p1 p2 Q q => ?_
  obtain ⟨a, xs, rfl, h, r⟩ := Dt.lst_ex p1
  obtain ⟨x, h1, h2⟩ := r.get (n := ds.length) (d := d) (by simp)
  have hl := r.len
  have hx : xs = xs.take ds.length ++ [x] := by
    rw [List.length_append, List.length_singleton] at hl
    have h3 := List.take_add_one (l := xs) (i := ds.length)
    rw [h1, List.take_of_length_le (by omega)] at h3
    simpa using h3
  rw [Dt.int_eq p2]
  exact .inl ⟨a, xs, _, x, rfl, rfl, SqL.of (w.s _ _ h), by rw [hx]; exact atI_last _ _, q _ F H (Stp.refl w) h2⟩
/-- a list that may change, a place of it -/
theorem ev_ixC {s : Nat} (hs : Γ[s]? = some (.l ds)) (hb : EvD c Γ tb (dI i)) (hd : ds[i]? = some d) : EvD c Γ (tOp (rIx K) (tVar s) tb) d := fun F H σ w E Q q => by
  obtain ⟨ov, e1, l, rfl, e2, e3, xs, h, r⟩ := E.ok s _ hs
  refine ⟨.ref l, e1, ?_⟩
  refine hb F H σ w E _ fun y F1 H1 s1 p => ?_
  obtain ⟨x, h1, h2⟩ := r.get hd
  rw [Dt.int_eq p]
  exact .inl ⟨l, xs, _, x, rfl, rfl, SqL.of (s1.h _ _ e3 h), atI_nat h1, q _ F1 H1 s1 (Dt.up s1.f _ _ h2)⟩

/-! ### len, list, tuple -/
def rLn (K : PySem.W.Frag) : List V → Hp → VK → Prop := fun xs H Q => ∃ p ys, xs = [.ref p] ∧ (SqL K H p ys ∨ SqT K H p ys) ∧ Q (.int ys.length) H
theorem c_len {X : Cx} : CallR X (.builtin "len") (rLn X.K) := call_len_seq
def rLs (K : PySem.W.Frag) : List V → Hp → VK → Prop := fun xs H Q => ∃ p ys, xs = [.ref p] ∧ (SqL K H p ys ∨ SqT K H p ys) ∧ ∀ l, H l = none → Q (.ref l) (upd H l (.lst ys))
theorem c_list {X : Cx} : CallR X (.type "list") (rLs X.K) := call_list_of
def rTu (K : PySem.W.Frag) : List V → Hp → VK → Prop := fun xs H Q => ∃ p ys, xs = [.ref p] ∧ ((SqL K H p ys ∧ ∀ l, H l = none → Q (.ref l) (upd H l (.tup ys))) ∨ (SqT K H p ys ∧ Q (.ref p) H))
theorem c_tuple {X : Cx} : CallR X (.type "tuple") (rTu X.K) := call_tuple_of
def rIn1 : List V → Hp → VK → Prop := fun xs H Q => (∃ i, xs = [.int i] ∧ Q (.int i) H) ∨ ∃ k, xs = [.bl k] ∧ Q (.int (if k then 1 else 0)) H
theorem c_int {X : Cx} : CallR X (.type "int") rIn1 := call_int1
def rMx : List V → Hp → VK → Prop := fun xs H Q => ∃ i j, xs = [.int i, .int j] ∧ Q (.int (if j > i then j else i)) H
theorem c_max {X : Cx} (hc : X.calm = true) : CallR X (.builtin "max") rMx := call_max2 hc
def rMi : List V → Hp → VK → Prop := fun xs H Q => ∃ i j, xs = [.int i, .int j] ∧ Q (.int (if j < i then j else i)) H
theorem c_min {X : Cx} (hc : X.calm = true) : CallR X (.builtin "min") rMi := call_min2 hc
def rLnD : List V → Hp → VK → Prop := fun xs H Q => ∃ a kvs, xs = [V.ref a] ∧ H a = some (.dK kvs) ∧ Q (.int kvs.length) H
theorem c_lenD {X : Cx} : CallR X (.builtin "len") rLnD := call_lenD
theorem ev_lenT (ha : EvD c Γ ta (.tuple ds)) : EvD c Γ (tCB (rLn K) (tCons ta tNil)) (dI ds.length) := fun F H σ w E Q q => ha F H σ w E _ fun v F1 H1 s1 p => by
  obtain ⟨a, xs, rfl, h, r⟩ := Dt.tup_ex p
  refine ⟨a, xs, rfl, .inr (SqT.of (s1.w.s _ _ h)), ?_⟩
  rw [r.len]
  exact q _ F1 H1 s1 (.int _)
theorem ev_lenL (ha : EvD c Γ ta (.list ds)) : EvD c Γ (tCB (rLn K) (tCons ta tNil)) (dI ds.length) := fun F H σ w E Q q => ha F H σ w E _ fun v F1 H1 s1 p => by
  obtain ⟨a, xs, rfl, h, r⟩ := Dt.lst_ex p
  refine ⟨a, xs, rfl, .inl (SqL.of (s1.w.s _ _ h)), ?_⟩
  rw [r.len]
  exact q _ F1 H1 s1 (.int _)
theorem ev_lenC (s : Nat) (hs : Γ[s]? = some (.l ds) := by rfl) : EvD c Γ (tCB (rLn K) (tCons (tVar s) tNil)) (dI ds.length) := fun F H σ w E Q q => by
  obtain ⟨ov, e1, l, rfl, e2, e3, xs, h, r⟩ := E.ok s _ hs
  refine ⟨.ref l, e1, l, xs, rfl, .inl (SqL.of h), ?_⟩
  rw [r.len]
  exact q _ F H (Stp.refl w) (.int _)
theorem ev_lenK (s : Nat) {kvs : List (L2.Key × V)} (hs : Γ[s]? = some (.k kvs) := by rfl) : EvD c Γ (tCB rLnD (tCons (tVar s) tNil)) (dI kvs.length) := fun F H σ w E Q q => by
  obtain ⟨ov, e1, l, rfl, e2, e3, h⟩ := E.ok s _ hs
  exact ⟨.ref l, e1, l, kvs, rfl, h, q _ F H (Stp.refl w) (.int _)⟩
theorem ev_tuL (ha : EvD c Γ ta (.list ds)) : EvD c Γ (tCB (rTu K) (tCons ta tNil)) (.tuple ds) := fun F H σ w E Q q => ha F H σ w E _ fun v F1 H1 s1 p => by
  obtain ⟨a, xs, rfl, h, r⟩ := Dt.lst_ex p
  refine ⟨a, xs, rfl, .inl ⟨SqL.of (s1.w.s _ _ h), fun b hb => ?_⟩⟩
  exact q _ (upd F1 b (.tup xs)) _ (s1.trans (Stp.new s1.w hb)) (.tup upd_same (DtAll.up (same_new (s1.w.free hb)) ds xs r))
theorem ev_tuX {α : Type} {G : α → Prop} {f : α → List PyData} (ha : Ev c Γ ta (IsX G fun x => .list (f x))) : Ev c Γ (tCB (rTu K) (tCons ta tNil)) (IsX G fun x => .tuple (f x)) := fun F H σ w E Q q => ha F H σ w E _ fun v F1 H1 s1 p => by
  obtain ⟨x, g, p⟩ := p
  obtain ⟨a, xs, rfl, h, r⟩ := Dt.lst_ex p
  refine ⟨a, xs, rfl, .inl ⟨SqL.of (s1.w.s _ _ h), fun b hb => ?_⟩⟩
  exact q _ (upd F1 b (.tup xs)) _ (s1.trans (Stp.new s1.w hb)) ⟨x, g, .tup upd_same (DtAll.up (same_new (s1.w.free hb)) _ xs r)⟩
theorem ev_tuC (s : Nat) (hs : Γ[s]? = some (.l ds) := by rfl) : EvD c Γ (tCB (rTu K) (tCons (tVar s) tNil)) (.tuple ds) := fun F H σ w E Q q => by
  obtain ⟨ov, e1, l, rfl, e2, e3, xs, h, r⟩ := E.ok s _ hs
  refine ⟨.ref l, e1, l, xs, rfl, .inl ⟨SqL.of h, fun b hb => ?_⟩⟩
  exact q _ (upd F b (.tup xs)) _ (Stp.new w hb) (.tup upd_same (DtAll.up (same_new (w.free hb)) ds xs r))
theorem ev_lsL (ha : EvD c Γ ta (.list ds)) : EvD c Γ (tCB (rLs K) (tCons ta tNil)) (.list ds) := fun F H σ w E Q q => ha F H σ w E _ fun v F1 H1 s1 p => by
  obtain ⟨a, xs, rfl, h, r⟩ := Dt.lst_ex p
  refine ⟨a, xs, rfl, .inl (SqL.of (s1.w.s _ _ h)), fun b hb => ?_⟩
  exact q _ (upd F1 b (.lst xs)) _ (s1.trans (Stp.new s1.w hb)) (.lst upd_same (DtAll.up (same_new (s1.w.free hb)) ds xs r))
theorem ev_lsC (s : Nat) (hs : Γ[s]? = some (.l ds) := by rfl) : EvD c Γ (tCB (rLs K) (tCons (tVar s) tNil)) (.list ds) := fun F H σ w E Q q => by
  obtain ⟨ov, e1, l, rfl, e2, e3, xs, h, r⟩ := E.ok s _ hs
  refine ⟨.ref l, e1, l, xs, rfl, .inl (SqL.of h), fun b hb => ?_⟩
  exact q _ (upd F b (.lst xs)) _ (Stp.new w hb) (.lst upd_same (DtAll.up (same_new (w.free hb)) ds xs r))
theorem ev_inI {x : Int} (ha : EvD c Γ ta (.int x)) : EvD c Γ (tCB rIn1 (tCons ta tNil)) (.int x) := fun F H σ w E Q q => ha F H σ w E _ fun v F1 H1 s1 p => .inl ⟨x, by rw [Dt.int_eq p], q _ F1 H1 s1 (.int _)⟩
theorem ev_max (ha : EvD c Γ ta (dI i)) (hb : EvD c Γ tb (dI j)) : EvD c Γ (tCB rMx (tCons ta (tCons tb tNil))) (dI (max i j)) := fun F H σ w E Q q =>
  ha F H σ w E _ fun v F1 H1 s1 p1 => hb F1 H1 σ s1.w (E.step s1) _ fun u F2 H2 s2 p2 => by
    refine ⟨(i : Int), (j : Int), by rw [Dt.int_eq p1, Dt.int_eq p2], ?_⟩
    have h : (if (j : Int) > (i : Int) then (j : Int) else (i : Int)) = ((max i j : Nat) : Int) := by
      by_cases g : (j : Int) > (i : Int)
      · rw [if_pos g]; omega
      · rw [if_neg g]; omega
    rw [h]
    exact q _ F2 H2 (s1.trans s2) (.int _)
theorem ev_min (ha : EvD c Γ ta (dI i)) (hb : EvD c Γ tb (dI j)) : EvD c Γ (tCB rMi (tCons ta (tCons tb tNil))) (dI (min i j)) := fun F H σ w E Q q =>
  ha F H σ w E _ fun v F1 H1 s1 p1 => hb F1 H1 σ s1.w (E.step s1) _ fun u F2 H2 s2 p2 => by
    refine ⟨(i : Int), (j : Int), by rw [Dt.int_eq p1, Dt.int_eq p2], ?_⟩
    have h : (if (j : Int) < (i : Int) then (j : Int) else (i : Int)) = ((min i j : Nat) : Int) := by
      by_cases g : (j : Int) < (i : Int)
      · rw [if_pos g]; omega
      · rw [if_neg g]; omega
    rw [h]
    exact q _ F2 H2 (s1.trans s2) (.int _)
/-- tuple(range(n)), list(range(n)) -/
theorem rgV_dt {F : Hp} (n : Nat) : DtAll F (rgV 0 (n : Int)) ((List.range n).map dI) := by
  unfold rgV
  have e : ((n : Int) - 0).toNat = n := by omega
  rw [e]
  have q : ∀ l : List Nat, DtAll F (l.map fun (i : Nat) => V.int (0 + (i : Nat))) (l.map dI) := fun l => by
    induction l with
    | nil => exact .nil
    | cons a l ih =>
      exact .cons (dt_n (Int.zero_add _)) ih
  exact q _
theorem ev_tuR {n : Nat} (ha : EvD c Γ ta (dI n)) (hn : n ≤ 100000) : EvD c Γ (tTupRg (tRg1 ta)) (.tuple ((List.range n).map dI)) := fun F H σ w E Q q => ha F H σ w E _ fun v F1 H1 s1 p => by
  refine ⟨(n : Int), Dt.int_eq p, RgOk.of_le (by omega) (by omega) (by omega) (by omega), fun b hb => ?_⟩
  exact q _ (upd F1 b (.tup (rgV 0 (n : Int)))) _ (s1.trans (Stp.new s1.w hb)) (.tup upd_same (rgV_dt n))
theorem ev_lsR {n : Nat} (ha : EvD c Γ ta (dI n)) (hn : n ≤ 100000) : EvD c Γ (tLstRg (tRg1 ta)) (.list ((List.range n).map dI)) := fun F H σ w E Q q => ha F H σ w E _ fun v F1 H1 s1 p => by
  refine ⟨(n : Int), Dt.int_eq p, RgOk.of_le (by omega) (by omega) (by omega) (by omega), fun b hb => ?_⟩
  exact q _ (upd F1 b (.lst (rgV 0 (n : Int)))) _ (s1.trans (Stp.new s1.w hb)) (.lst upd_same (rgV_dt n))

/-! ### lists joined, cut -/
theorem ev_cat (ha : EvD c Γ ta (.list ds)) (hb : EvD c Γ tb (.list es)) (hz : ds.length + es.length ≤ 100000) : EvD c Γ (tOp rCat ta tb) (.list (ds ++ es)) := by
  refine ev_op ha hb fun F H v u w p1 p2 Q q => ?_
  obtain ⟨a, xs, rfl, h, r⟩ := Dt.lst_ex p1
  obtain ⟨b, ys, rfl, h', r'⟩ := Dt.lst_ex p2
  refine ⟨a, b, xs, ys, rfl, rfl, w.s _ _ h, w.s _ _ h', sz_ok (by rw [r.len, r'.len]; exact hz), fun p hp => ?_⟩
  exact q _ (upd F p (.lst (xs ++ ys))) _ (Stp.new w hp) (.lst upd_same (DtAll.up (same_new (w.free hp)) _ _ (r.app r')))
def EvO (c : Option Addr) (Γ : List Sl) (to : TO) (o : Option Int) : Prop := ∀ F H σ, Wf c F H → Env c F H σ Γ → ∀ Q : Option Int → Hp → Prop, (∀ F2 H2, Stp c F H F2 H2 → Q o H2) → to σ H Q
theorem eo_none : EvO c Γ tNoPart none := fun F H σ w E Q q => q F H (Stp.refl w)
theorem eo_some {x : Int} (h : EvD c Γ ta (.int x)) : EvO c Γ (tPart ta) (some x) := fun F H σ w E Q q => h F H σ w E _ fun v F1 H1 s1 p => ⟨x, Dt.int_eq p, q F1 H1 s1⟩
theorem cut_from (xs : List V) (k : Nat) : cutV xs (some (k : Int)) none = xs.drop k := by
  unfold cutV
  rw [HT.sIx_nat, HT.sIx_none]
  by_cases h : k ≤ xs.length
  · rw [Nat.min_eq_left h]
    exact List.take_of_length_le (by rw [List.length_drop]; omega)
  · rw [Nat.min_eq_right (by omega), List.drop_of_length_le (by omega), List.drop_of_length_le (by omega)]
    simp
theorem cut_last (xs : List V) : cutV xs none (some (-1)) = xs.take (xs.length - 1) := by
  unfold cutV
  rw [HT.sIx_none]
  have e : HT.sIx xs.length xs.length (some (-1)) = xs.length - 1 := by
    unfold HT.sIx
    simp
    omega
  rw [e]
  simp
theorem ev_from {k : Nat} {to tq : TO} (ha : EvD c Γ ta (.list ds)) (h1 : EvO c Γ to (some (k : Int))) (h2 : EvO c Γ tq none) : EvD c Γ (tSl (rSlL K) ta to tq) (.list (ds.drop k)) := fun F H σ w E Q q =>
  ha F H σ w E _ fun v F1 H1 s1 p => h1 F1 H1 σ s1.w (E.step s1) _ fun F2 H2 s2 => h2 F2 H2 σ s2.w (E.step (s1.trans s2)) _ fun F3 H3 s3 => by
    obtain ⟨a, xs, rfl, h, r⟩ := Dt.lst_ex p
    refine ⟨a, xs, rfl, SqL.of (s3.w.s _ _ (s3.f _ _ (s2.f _ _ h))), fun b hb => ?_⟩
    rw [cut_from]
    exact q _ (upd F3 b (.lst (xs.drop k))) _ (((s1.trans s2).trans s3).trans (Stp.new s3.w hb)) (.lst upd_same (DtAll.up ((s2.f.trans s3.f).trans (same_new (s3.w.free hb))) _ _ (r.drop k)))
theorem ev_fromC {k s : Nat} {to tq : TO} (hs : Γ[s]? = some (.l ds)) (h1 : EvO c Γ to (some (k : Int))) (h2 : EvO c Γ tq none) : EvD c Γ (tSl (rSlL K) (tVar s) to tq) (.list (ds.drop k)) := fun F H σ w E Q q => by
  obtain ⟨ov, e1, l, rfl, e2, e3, xs, h, r⟩ := E.ok s _ hs
  refine ⟨.ref l, e1, h1 F H σ w E _ fun F2 H2 s2 => h2 F2 H2 σ s2.w (E.step s2) _ fun F3 H3 s3 => ?_⟩
  refine ⟨l, xs, rfl, SqL.of (s3.h _ _ e3 (s2.h _ _ e3 h)), fun b hb => ?_⟩
  rw [cut_from]
  exact q _ (upd F3 b (.lst (xs.drop k))) _ ((s2.trans s3).trans (Stp.new s3.w hb)) (.lst upd_same (DtAll.up ((s2.f.trans s3.f).trans (same_new (s3.w.free hb))) _ _ (r.drop k)))
theorem ev_butLast {to tq : TO} (ha : EvD c Γ ta (.list ds)) (h1 : EvO c Γ to none) (h2 : EvO c Γ tq (some (-1))) : EvD c Γ (tSl (rSlL K) ta to tq) (.list (ds.take (ds.length - 1))) := fun F H σ w E Q q =>
  ha F H σ w E _ fun v F1 H1 s1 p => h1 F1 H1 σ s1.w (E.step s1) _ fun F2 H2 s2 => h2 F2 H2 σ s2.w (E.step (s1.trans s2)) _ fun F3 H3 s3 => by
    obtain ⟨a, xs, rfl, h, r⟩ := Dt.lst_ex p
    refine ⟨a, xs, rfl, SqL.of (s3.w.s _ _ (s3.f _ _ (s2.f _ _ h))), fun b hb => ?_⟩
    rw [cut_last, r.len]
    exact q _ (upd F3 b (.lst (xs.take (ds.length - 1)))) _ (((s1.trans s2).trans s3).trans (Stp.new s3.w hb)) (.lst upd_same (DtAll.up ((s2.f.trans s3.f).trans (same_new (s3.w.free hb))) _ _ (r.take _)))
end
end KK
/-! K12C: dicts, membership, what is walked, comprehensions, calls. -/
namespace KK
open PySem PySem.Spec PyProof.Rows L2
section
variable {c : Option Addr} {Γ Γ2 : List Sl} {te ta tb tx : TE} {t u : TT} {P P' R : Hp → V → Prop} {Ps : List (Hp → V → Prop)} {K : PySem.W.Frag} {i j s : Nat} {d e : PyData} {ds es : List PyData}

/-! ### dicts: keys ints, keys tuples of ints -/
abbrev kN (n : Nat) : L2.Key := Sum.inl (n : Int)
abbrev kT (l : List Nat) : List L2.Key := l.map kN
abbrev vN (n : Nat) : V := .int (n : Int)
theorem key_dt {F : Hp} {l : List Nat} {vs : List V} (h : DtAll F vs (l.map dI)) : vs = (kT l).map kV := by
  induction l generalizing vs with
  | nil => cases h; rfl
  | cons a l ih =>
    cases h with
    | cons h r => rw [Dt.int_eq h, ih r]; rfl
theorem ev_dgetK {kvs : List (L2.Key × V)} (hs : Γ[s]? = some (.k kvs)) (hb : EvD c Γ tb (dI i)) (hv : valV kvs (kN i) = some (vN j)) : EvD c Γ (tDGet (tVar s) tb) (dI j) := fun F H σ w E Q q => by
  obtain ⟨ov, e1, l, rfl, e2, e3, h⟩ := E.ok s _ hs
  refine ⟨.ref l, e1, hb F H σ w E _ fun v F1 H1 s1 p => ?_⟩
  rw [Dt.int_eq p]
  have g := DGet.k (k := kN i) (s1.h _ _ e3 h)
  rw [hv] at g
  exact ⟨l, _, rfl, g, q _ F1 H1 s1 (.int _)⟩
theorem ev_dgetT {l : List Nat} {kvs : List (List L2.Key × V)} (hs : Γ[s]? = some (.t kvs)) (hb : EvD c Γ tb (.tuple (l.map dI))) (hv : valV kvs (kT l) = some (vN j)) : EvD c Γ (tDGet (tVar s) tb) (dI j) := fun F H σ w E Q q => by
  obtain ⟨ov, e1, a, rfl, e2, e3, h⟩ := E.ok s _ hs
  refine ⟨.ref a, e1, hb F H σ w E _ fun v F1 H1 s1 p => ?_⟩
  obtain ⟨b, xs, rfl, hb', r⟩ := Dt.tup_ex p
  have g := DGet.t (k := kT l) (b := b) (s1.h _ _ e3 h) (by rw [← key_dt r]; exact s1.w.s _ _ hb')
  rw [hv] at g
  exact ⟨a, _, rfl, g, q _ F1 H1 s1 (.int _)⟩
/-- a dict that does not change any more: what it holds -/
def IsK (kvs : List (L2.Key × V)) : Hp → V → Prop := fun F v => ∃ a, v = .ref a ∧ F a = some (.dK kvs)
def IsT (kvs : List (List L2.Key × V)) : Hp → V → Prop := fun F v => ∃ a, v = .ref a ∧ F a = some (.dT kvs)
instance (kvs : List (L2.Key × V)) : Mn (IsK kvs) := ⟨fun _ _ _ e ⟨a, h1, h2⟩ => ⟨a, h1, e _ _ h2⟩⟩
instance (kvs : List (List L2.Key × V)) : Mn (IsT kvs) := ⟨fun _ _ _ e ⟨a, h1, h2⟩ => ⟨a, h1, e _ _ h2⟩⟩
theorem ev_fgetK {kvs : List (L2.Key × V)} (ha : Ev c Γ ta (IsK kvs)) (hb : EvD c Γ tb (dI i)) (hv : valV kvs (kN i) = some (vN j)) : EvD c Γ (tDGet ta tb) (dI j) := fun F H σ w E Q q =>
  ha F H σ w E _ fun x F1 H1 s1 p1 => hb F1 H1 σ s1.w (E.step s1) _ fun v F2 H2 s2 p2 => by
    obtain ⟨a, rfl, h⟩ := p1
    rw [Dt.int_eq p2]
    have g := DGet.k (k := kN i) (s2.w.s _ _ (s2.f _ _ h))
    rw [hv] at g
    exact ⟨a, _, rfl, g, q _ F2 H2 (s1.trans s2) (.int _)⟩
theorem ev_fgetT {l : List Nat} {kvs : List (List L2.Key × V)} (ha : Ev c Γ ta (IsT kvs)) (hb : EvD c Γ tb (.tuple (l.map dI))) (hv : valV kvs (kT l) = some (vN j)) : EvD c Γ (tDGet ta tb) (dI j) := fun F H σ w E Q q =>
  ha F H σ w E _ fun x F1 H1 s1 p1 => hb F1 H1 σ s1.w (E.step s1) _ fun v F2 H2 s2 p2 => by
    obtain ⟨a, rfl, h⟩ := p1
    obtain ⟨b, xs, rfl, hb', r⟩ := Dt.tup_ex p2
    have g := DGet.t (k := kT l) (b := b) (s2.w.s _ _ (s2.f _ _ h)) (by rw [← key_dt r]; exact s2.w.s _ _ hb')
    rw [hv] at g
    exact ⟨a, _, rfl, g, q _ F2 H2 (s1.trans s2) (.int _)⟩
theorem ev_dinK {kvs : List (L2.Key × V)} (ha : EvD c Γ ta (dI i)) (hs : Γ[s]? = some (.k kvs)) : EvD c Γ (tDIn ta (tVar s)) (.bool (valV kvs (kN i)).isSome) := fun F H σ w E Q q =>
  ha F H σ w E _ fun v F1 H1 s1 p => by
    obtain ⟨ov, e1, l, rfl, e2, e3, h⟩ := (E.step s1).ok s _ hs
    rw [Dt.int_eq p]
    exact ⟨.ref l, e1, l, _, rfl, DGet.k (k := kN i) h, q _ F1 H1 s1 (.bl _)⟩
theorem ev_dniK {kvs : List (L2.Key × V)} (ha : EvD c Γ ta (dI i)) (hs : Γ[s]? = some (.k kvs)) : EvD c Γ (tDNotIn ta (tVar s)) (.bool (!(valV kvs (kN i)).isSome)) := fun F H σ w E Q q =>
  ha F H σ w E _ fun v F1 H1 s1 p => by
    obtain ⟨ov, e1, l, rfl, e2, e3, h⟩ := (E.step s1).ok s _ hs
    rw [Dt.int_eq p]
    exact ⟨.ref l, e1, l, _, rfl, DGet.k (k := kN i) h, q _ F1 H1 s1 (.bl _)⟩
theorem ev_finK {kvs : List (L2.Key × V)} (ha : EvD c Γ ta (dI i)) (hb : Ev c Γ tb (IsK kvs)) : EvD c Γ (tDIn ta tb) (.bool (valV kvs (kN i)).isSome) := fun F H σ w E Q q =>
  ha F H σ w E _ fun v F1 H1 s1 p => hb F1 H1 σ s1.w (E.step s1) _ fun x F2 H2 s2 p2 => by
    obtain ⟨a, rfl, h⟩ := p2
    rw [Dt.int_eq p]
    exact ⟨a, _, rfl, DGet.k (k := kN i) (s2.w.s _ _ h), q _ F2 H2 (s1.trans s2) (.bl _)⟩
theorem ev_dinT {l : List Nat} {kvs : List (List L2.Key × V)} (ha : EvD c Γ ta (.tuple (l.map dI))) (hs : Γ[s]? = some (.t kvs)) : EvD c Γ (tDIn ta (tVar s)) (.bool (valV kvs (kT l)).isSome) := fun F H σ w E Q q =>
  ha F H σ w E _ fun v F1 H1 s1 p => by
    obtain ⟨ov, e1, a, rfl, e2, e3, h⟩ := (E.step s1).ok s _ hs
    obtain ⟨b, xs, rfl, hb', r⟩ := Dt.tup_ex p
    exact ⟨.ref a, e1, a, _, rfl, DGet.t (k := kT l) (b := b) h (by rw [← key_dt r]; exact s1.w.s _ _ hb'), q _ F1 H1 s1 (.bl _)⟩
theorem ev_finT {l : List Nat} {kvs : List (List L2.Key × V)} (ha : EvD c Γ ta (.tuple (l.map dI))) (hb : Ev c Γ tb (IsT kvs)) : EvD c Γ (tDIn ta tb) (.bool (valV kvs (kT l)).isSome) := fun F H σ w E Q q =>
  ha F H σ w E _ fun v F1 H1 s1 p => hb F1 H1 σ s1.w (E.step s1) _ fun x F2 H2 s2 p2 => by
    obtain ⟨a, rfl, h⟩ := p2
    obtain ⟨b, xs, rfl, hb', r⟩ := Dt.tup_ex p
    exact ⟨a, _, rfl, DGet.t (k := kT l) (b := b) (s2.w.s _ _ h) (by rw [← key_dt r]; exact s2.w.s _ _ (s2.f _ _ hb')), q _ F2 H2 (s1.trans s2) (.bl _)⟩

/-! ### membership in lists -/
theorem ev_inD (ha : EvD c Γ ta d) (hb : EvD c Γ tb (.list ds)) (h1 : SeqAt.shaped d = true) (h2 : SeqAt.shaped (.list ds) = true) : EvD c Γ (tOp (rInD K) ta tb) (.bool (ds.any fun z => PyData.eqv z d)) := by
  refine ev_op ha hb fun F H v u w p1 p2 Q q => ?_
  exact ⟨d, ds, Dt.dp _ _ (Dt.up w.s _ _ p1), Dt.dp _ _ (Dt.up w.s _ _ p2), h1, h2, q _ F H (Stp.refl w) (.bl _)⟩
theorem ev_niD (ha : EvD c Γ ta d) (hb : EvD c Γ tb (.list ds)) (h1 : SeqAt.shaped d = true) (h2 : SeqAt.shaped (.list ds) = true) : EvD c Γ (tOp (rNotInD K) ta tb) (.bool (!ds.any fun z => PyData.eqv z d)) := by
  refine ev_op ha hb fun F H v u w p1 p2 Q q => ?_
  exact ⟨d, ds, Dt.dp _ _ (Dt.up w.s _ _ p1), Dt.dp _ _ (Dt.up w.s _ _ p2), h1, h2, q _ F H (Stp.refl w) (.bl _)⟩
theorem ev_niC (ha : EvD c Γ ta d) (hs : Γ[s]? = some (.l ds)) (h1 : SeqAt.shaped d = true) (h2 : SeqAt.shaped (.list ds) = true) : EvD c Γ (tOp (rNotInD K) ta (tVar s)) (.bool (!ds.any fun z => PyData.eqv z d)) := fun F H σ w E Q q =>
  ha F H σ w E _ fun v F1 H1 s1 p => by
    obtain ⟨ov, e1, a, rfl, e2, e3, xs, h, r⟩ := (E.step s1).ok s _ hs
    exact ⟨.ref a, e1, d, ds, Dt.dp _ _ (Dt.up s1.w.s _ _ p), .lst (SqL.of h) (DtAll.dp _ _ (DtAll.up s1.w.s _ _ r)), h1, h2, q _ F1 H1 s1 (.bl _)⟩
/-- of plain numbers -/
theorem inV_nat (x : Nat) : ∀ l : List Nat, inV (vN x) (l.map vN) = decide (x ∈ l)
  | [] => by simp [inV]
  | a :: l => by
    have ih := inV_nat x l
    unfold inV at ih ⊢
    rw [List.map_cons, List.any_cons, ih]
    have q : eqV (vN a) (vN x) = decide (a = x) := by
      show ((a : Int) == (x : Int)) = decide (a = x)
      by_cases h : a = x
      · subst h; simp
      · rw [decide_eq_false h]
        exact beq_eq_false_iff_ne.mpr (by omega)
    rw [q]
    by_cases h : a = x
    · subst h; simp
    · have h2 : ¬ x = a := fun z => h z.symm
      simp [h, h2]
theorem flat_nat (l : List Nat) : (l.map vN).all flatV = true := by
  rw [List.all_map]
  exact List.all_eq_true.mpr fun _ _ => rfl
theorem dt_nats {F : Hp} {l : List Nat} {vs : List V} (h : DtAll F vs (l.map dI)) : vs = l.map vN := by
  induction l generalizing vs with
  | nil => cases h; rfl
  | cons a l ih =>
    cases h with
    | cons h r => rw [Dt.int_eq h, ih r]; rfl
theorem ev_inT {x : Nat} {l : List Nat} (ha : EvD c Γ ta (dI x)) (hb : EvD c Γ tb (.tuple (l.map dI))) : EvD c Γ (tOp (rIn K false) ta tb) (.bool (decide (x ∈ l))) := by
  refine ev_op ha hb fun F H v u w p1 p2 Q q => ?_
  obtain ⟨a, xs, rfl, h, r⟩ := Dt.tup_ex p2
  rw [Dt.int_eq p1]
  refine ⟨a, xs, rfl, .inr (SqT.of (w.s _ _ h)), rfl, by rw [dt_nats r]; exact flat_nat l, ?_⟩
  rw [dt_nats r]
  refine q _ F H (Stp.refl w) ?_
  show Dt F (.bl (inV (vN x) (l.map vN))) _
  rw [inV_nat]
  exact .bl _
theorem ev_niI {x : Nat} {l : List Nat} (ha : EvD c Γ ta (dI x)) (hs : Γ[s]? = some (.l (l.map dI))) : EvD c Γ (tOp (rIn K true) ta (tVar s)) (.bool (!decide (x ∈ l))) := fun F H σ w E Q q =>
  ha F H σ w E _ fun v F1 H1 s1 p => by
    obtain ⟨ov, e1, a, rfl, e2, e3, xs, h, r⟩ := (E.step s1).ok s _ hs
    rw [Dt.int_eq p]
    refine ⟨.ref a, e1, a, xs, rfl, .inl (SqL.of h), rfl, by rw [dt_nats r]; exact flat_nat l, ?_⟩
    rw [dt_nats r]
    refine q _ F1 H1 s1 ?_
    show Dt F1 (.bl (!inV (vN x) (l.map vN))) _
    rw [inV_nat]
    exact .bl _
/-- nested data compared -/
theorem ev_neD (ha : EvD c Γ ta d) (hb : EvD c Γ tb e) (h1 : SeqAt.shaped d = true) (h2 : SeqAt.shaped e = true) : EvD c Γ (tOp (rNeD K) ta tb) (.bool (!PyData.eqv d e)) := by
  refine ev_op ha hb fun F H v u w p1 p2 Q q => ?_
  exact ⟨d, e, Dt.dp _ _ (Dt.up w.s _ _ p1), Dt.dp _ _ (Dt.up w.s _ _ p2), h1, h2, q _ F H (Stp.refl w) (.bl _)⟩

/-! ### what is walked -/
def WalkD (c : Option Addr) (J : It) (F : Hp) (ds : List PyData) : Prop := ∀ F1 H1, Same F F1 → Wf c F1 H1 → (∀ i, i < ds.length → J.go i H1) ∧ J.stop ds.length H1 ∧
  ∀ i x H2, i < ds.length → J.yld i H1 x H2 → ∃ F2 d, Stp c F1 H1 F2 H2 ∧ ds[i]? = some d ∧ Dt F2 x d
def EvI (c : Option Addr) (Γ : List Sl) (wi : TI) (ds : List PyData) : Prop := ∀ F H σ, Wf c F H → Env c F H σ Γ → ∀ R : It → Hp → Prop, (∀ J F2 H2, Stp c F H F2 H2 → WalkD c J F2 ds → R J H2) → wi σ H R
theorem walk_l {F : Hp} {a : Addr} {xs : List V} (h : F a = some (.lst xs)) (r : DtAll F xs ds) : WalkD c (Itl K a) F ds := fun F1 H1 e w => by
  have hq : SqL K H1 a xs := SqL.of (w.s _ _ (e _ _ h))
  have hl := r.len
  refine ⟨fun i hi => ⟨xs, xs[i]'(by omega), hq, by rw [List.getElem?_eq_getElem]⟩, ⟨xs, hq, by omega⟩, fun i x H2 hi y => ?_⟩
  obtain ⟨rfl, y⟩ := y
  obtain ⟨d, q1, q2⟩ := (DtAll.up e _ _ r).getV (y xs hq)
  exact ⟨F1, d, Stp.refl w, q1, q2⟩
theorem walk_t {F : Hp} {a : Addr} {xs : List V} (h : F a = some (.tup xs)) (r : DtAll F xs ds) : WalkD c (Itt K a) F ds := fun F1 H1 e w => by
  have hq : SqT K H1 a xs := SqT.of (w.s _ _ (e _ _ h))
  have hl := r.len
  refine ⟨fun i hi => ⟨xs, xs[i]'(by omega), hq, by rw [List.getElem?_eq_getElem]⟩, ⟨xs, hq, by omega⟩, fun i x H2 hi y => ?_⟩
  obtain ⟨rfl, y⟩ := y
  obtain ⟨d, q1, q2⟩ := (DtAll.up e _ _ r).getV (y xs hq)
  exact ⟨F1, d, Stp.refl w, q1, q2⟩
theorem ei_l (h : EvD c Γ ta (.list ds)) : EvI c Γ (iList K ta) ds := fun F H σ w E R q => h F H σ w E _ fun v F1 H1 s1 p => by
  obtain ⟨a, xs, rfl, hl, r⟩ := Dt.lst_ex p
  exact ⟨a, rfl, ⟨xs, SqL.of (s1.w.s _ _ hl)⟩, q _ F1 H1 s1 (walk_l hl r)⟩
theorem ei_t (h : EvD c Γ ta (.tuple ds)) : EvI c Γ (iTup K ta) ds := fun F H σ w E R q => h F H σ w E _ fun v F1 H1 s1 p => by
  obtain ⟨a, xs, rfl, hl, r⟩ := Dt.tup_ex p
  exact ⟨a, rfl, ⟨xs, SqT.of (s1.w.s _ _ hl)⟩, q _ F1 H1 s1 (walk_t hl r)⟩
theorem walk_r {F : Hp} (n : Nat) : WalkD c (Itr 0 n) F ((List.range n).map dI) := fun F1 H1 e w => by
  refine ⟨fun i hi => (by simpa using hi : i < n), by show n ≤ _; simp, fun i x H2 hi y => ?_⟩
  obtain ⟨rfl, rfl⟩ := y
  have hi : i < n := by simpa using hi
  refine ⟨F1, dI i, Stp.refl w, by simp [hi], dt_n (by omega)⟩
theorem ei_r {n : Nat} (h : EvD c Γ ta (dI n)) (hn : n ≤ 100000) : EvI c Γ (iRng1 (tCons ta tNil)) ((List.range n).map dI) := fun F H σ w E R q => h F H σ w E _ fun v F1 H1 s1 p =>
  ⟨(n : Int), by rw [Dt.int_eq p], by omega, by omega, q _ F1 H1 s1 (walk_r n)⟩

/-! ### targets -/
/-- the cells behind are cells ahead -/
def Sub (σ : L2.St) (Γ : List Sl) (σ2 : L2.St) (Γ2 : List Sl) : Prop := ∀ (i : Nat) (s : Sl) (l : Addr), Γ2[i]? = some s → s.isC = true → σ2[i]? = some (some (.ref l)) → Γ[i]? = some s ∧ σ[i]? = some (some (.ref l))
theorem Sub.refl {σ : L2.St} : Sub σ Γ σ Γ := fun _ _ _ h1 _ h2 => ⟨h1, h2⟩
theorem Sub.trans {σ σ2 σ3 : L2.St} {Γ3 : List Sl} (a : Sub σ Γ σ2 Γ2) (b : Sub σ2 Γ2 σ3 Γ3) : Sub σ Γ σ3 Γ3 := fun i s l h1 h2 h3 =>
  let ⟨q1, q2⟩ := b i s l h1 h2 h3
  a i s l q1 h2 q2
theorem Sub.set {σ : L2.St} {x : Sl} {v : Option V} (hx : x.isC = false) : Sub σ Γ (σ.set i v) (Γ.set i x) := fun j s l h1 h2 h3 => by
  by_cases z : i = j
  · subst z
    by_cases y : i < Γ.length
    · rw [List.getElem?_set_self y] at h1
      cases h1
      rw [hx] at h2
      cases h2
    · rw [List.getElem?_eq_none (by simpa using y)] at h1
      cases h1
  · rw [List.getElem?_set_ne z] at h1 h3
    exact ⟨h1, h3⟩
def Tg (c : Option Addr) (g : TG) (js : List Nat) (d : PyData) (Γ Γ2 : List Sl) : Prop := ∀ F H σ v, Wf c F H → Env c F H σ Γ → Dt F v d → ∀ Q : L2.St → Hp → Prop,
  (∀ σ2, Env c F H σ2 Γ2 → Sub σ Γ σ2 Γ2 → (∀ vs, (∀ j ∈ js, j ∈ vs) → wipe σ2 vs = wipe σ vs) → Q σ2 H) → g v σ H Q
theorem tg_n : Tg c (gName i) [i] d Γ (Γ.set i (.d d)) := fun F H σ v w E p Q q => q _ (E.setD p) (Sub.set rfl) fun vs h => wipe_set (h i (by simp))
def TgA (c : Option Addr) (g : TGs) (js : List Nat) (ds : List PyData) (Γ Γ2 : List Sl) : Prop := ∀ F H σ vs, Wf c F H → Env c F H σ Γ → DtAll F vs ds → ∀ Q : L2.St → Hp → Prop,
  (∀ σ2, Env c F H σ2 Γ2 → Sub σ Γ σ2 Γ2 → (∀ vs, (∀ j ∈ js, j ∈ vs) → wipe σ2 vs = wipe σ vs) → Q σ2 H) → g vs σ H Q
theorem tga_nil : TgA c gNil [] [] Γ Γ := fun F H σ vs w E p Q q => by
  cases p
  exact ⟨rfl, q σ E Sub.refl fun _ _ => rfl⟩
theorem tga_cons {g : TG} {gs : TGs} {js ks : List Nat} {Γ3 : List Sl} (h1 : Tg c g js d Γ Γ2) (h2 : TgA c gs ks ds Γ2 Γ3) : TgA c (gCons g gs) (js ++ ks) (d :: ds) Γ Γ3 := fun F H σ vs w E p Q q => by
  cases p with
  | cons p r =>
    refine ⟨_, _, rfl, h1 F H σ _ w E p _ fun σ2 E2 u2 hw => ?_⟩
    exact h2 F H σ2 _ w E2 r Q fun σ3 E3 u3 hw3 => q σ3 E3 (u2.trans u3) fun vs hv => (hw3 vs fun j hj => hv j (List.mem_append_right _ hj)).trans (hw vs fun j hj => hv j (List.mem_append_left _ hj))
theorem tg_t {g : TGs} {js : List Nat} {n : Nat} (h : TgA c g js ds Γ Γ2) (hn : ds.length = n := by rfl) : Tg c (gTup K n g) js (.tuple ds) Γ Γ2 := fun F H σ v w E p Q q => by
  obtain ⟨a, xs, rfl, hl, r⟩ := Dt.tup_ex p
  exact ⟨a, xs, rfl, SqT.of (w.s _ _ hl), by rw [r.len]; exact hn, h F H σ xs w E r Q q⟩
theorem tg_2 : Tg c (gTup K 2 (gCons (gName i) (gCons (gName j) gNil))) [i, j] (.tuple [d, e]) Γ ((Γ.set i (.d d)).set j (.d e)) := tg_t (tga_cons tg_n (tga_cons tg_n tga_nil))
theorem tg_3 {k : Nat} {f : PyData} : Tg c (gTup K 3 (gCons (gName i) (gCons (gName j) (gCons (gName k) gNil)))) [i, j, k] (.tuple [d, e, f]) Γ (((Γ.set i (.d d)).set j (.d e)).set k (.d f)) :=
  tg_t (tga_cons tg_n (tga_cons tg_n (tga_cons tg_n tga_nil)))

/-! ### comprehensions -/
/-- the loop of a comprehension by its data; x of a turn: what is kept of it -/
theorem ev_lcG {wi : TI} {g : TG} {tt : TT} {js vs : List Nat} (hi : EvI c Γ wi ds) (hz : ds.length ≤ 50000) (hv : ∀ j ∈ js, j ∈ vs) (Ok : List PyData → Nat → Prop) (h0 : Ok [] 0)
    (ht : ∀ i d, ds[i]? = some d → ∃ Γ2 b, Tg c g js d (wipeG Γ vs) Γ2 ∧ EvT c Γ2 tt b ∧ (b = true → ∃ G : PyData → Prop, Ev c Γ2 te (IsX G id) ∧ ∀ acc y, Ok acc i → G y → Ok (acc ++ [y]) (i + 1)) ∧ (b = false → ∀ acc, Ok acc i → Ok acc (i + 1))) :
    Ev c Γ (tLc wi g tt te vs) (IsX (fun acc => Ok acc ds.length) .list) := fun F H σ w E Q q => by
  refine hi F H σ w E _ fun J F1 H1 s1 wk => ?_
  intro D hD
  have E1 := E.step s1
  refine ⟨fun i m H' => m = ds.length - i ∧ i ≤ ds.length ∧ ∃ F' xs acc, Stp c F1 H1 F' H' ∧ F' D = none ∧ H' D = some (.lst xs) ∧ DtAll F' xs acc ∧ acc.length ≤ i ∧ Ok acc i,
    ⟨ds.length, rfl, Nat.zero_le _, F1, [], [], Stp.cell s1.w hD, s1.w.free hD, upd_same, .nil, Nat.le_refl _, h0⟩, ?_⟩
  rintro i m H' ⟨rfl, hle, F', xs, acc, s2, nF, eD, r, hlen, ok⟩
  obtain ⟨wg, ws, wy⟩ := wk F' H' s2.f s2.w
  have nc : c ≠ some D := s1.w.ne hD
  by_cases hlt : i < ds.length
  · refine .inr ⟨wg i hlt, fun H'' => ∃ F' xs acc, Stp c F1 H1 F' H'' ∧ F' D = none ∧ H'' D = some (.lst xs) ∧ DtAll F' xs acc ∧ acc.length ≤ i + 1 ∧ Ok acc (i + 1), fun H'' h => ⟨ds.length - (i + 1), by omega, rfl, hlt, h⟩, fun x H2 y => ?_⟩
    obtain ⟨F2, d, s3, hd, hx⟩ := wy i x H2 hlt y
    obtain ⟨Γ2, b, tg, tt', h1, h2⟩ := ht i d hd
    have E2 : Env c F2 H2 (wipe σ vs) (wipeG Γ vs) := ((E1.step s2).step s3).wipe vs
    refine tg F2 H2 _ x s3.w E2 hx _ fun σ2 E3 _ hw => ⟨by rw [hw vs hv, wipe_wipe], ?_⟩
    have nF2 : F2 D = none := s3.n D nF (by rw [eD]; simp)
    have eD2 : H2 D = some (.lst xs) := s3.h D _ nc eD
    have r2 := DtAll.up s3.f _ _ r
    refine tt' F2 H2 σ2 s3.w E3 _ fun F3 H3 s4 => ?_
    have nF3 : F3 D = none := s4.n D nF2 (by rw [eD2]; simp)
    have eD3 : H3 D = some (.lst xs) := s4.h D _ nc eD2
    have r3 := DtAll.up s4.f _ _ r2
    cases b with
    | false =>
      exact iteF ⟨F3, xs, acc, (s2.trans s3).trans s4, nF3, eD3, r3, by omega, h2 rfl acc ok⟩
    | true =>
      obtain ⟨G, ev, hG⟩ := h1 rfl
      refine iteT (ev F3 H3 σ2 s4.w (E3.step s4) _ fun v F4 H4 s5 p => ?_)
      obtain ⟨y, gy, p⟩ := p
      have nF4 : F4 D = none := s5.n D nF3 (by rw [eD3]; simp)
      have eD4 : H4 D = some (.lst xs) := s5.h D _ nc eD3
      have r4 := DtAll.up s5.f _ _ r3
      have hl := r4.len
      have sT := ((s2.trans s3).trans s4).trans s5
      refine ⟨xs, eD4, Nat.lt_of_le_of_lt (by omega : xs.length ≤ 50000) (by decide), F4, xs ++ [v], acc ++ [y], sT.put hD nF4 nc, nF4, upd_same, r4.app (.one p), by simp; omega, hG acc y ok gy⟩
  · have e : i = ds.length := by omega
    subst e
    refine .inl ⟨ws, ?_⟩
    have s5 : Stp c F1 H1 (upd F' D (.lst xs)) H' := s2.frz hD nF eD nc
    exact q _ (upd F' D (.lst xs)) H' (s1.trans s5) ⟨acc, ok, .lst upd_same (DtAll.up (same_new nF) _ _ r)⟩
theorem isx_to {α : Type} {G : α → Prop} {f : α → PyData} {d : PyData} (h : Ev c Γ te (IsX G f)) (g : ∀ x, G x → f x = d) : EvD c Γ te d := h.imp fun F v ⟨x, gx, p⟩ => by
  show Dt F v d
  rw [← g x gx]
  exact p
/-- [e for x in l if p]: each result by the element -/
theorem ev_lc {α β : Type} {wi : TI} {g : TG} {tt : TT} {js vs : List Nat} (l : List α) (dd : α → PyData) (f : α → β) (ee : β → PyData) (p : α → Bool) (hi : EvI c Γ wi (l.map dd)) (hz : l.length ≤ 50000) (hv : ∀ j ∈ js, j ∈ vs)
    (ht : ∀ x, x ∈ l → ∃ Γ2, Tg c g js (dd x) (wipeG Γ vs) Γ2 ∧ EvT c Γ2 tt (p x) ∧ (p x = true → EvD c Γ2 te (ee (f x)))) :
    EvD c Γ (tLc wi g tt te vs) (.list (((l.filter p).map f).map ee)) := by
  refine isx_to (ev_lcG hi (by simpa using hz) hv (fun acc i => acc = (((l.take i).filter p).map f).map ee) rfl fun i d hd => ?_) fun acc h => ?_
  · rw [List.getElem?_map] at hd
    cases hx : l[i]? with
    | none => rw [hx] at hd; cases hd
    | some x =>
      rw [hx] at hd
      have hd : dd x = d := by simpa using hd
      subst hd
      obtain ⟨Γ2, t1, t2, t3⟩ := ht x (List.mem_of_getElem? hx)
      have tk : l.take (i + 1) = l.take i ++ [x] := by rw [List.take_add_one, hx]; rfl
      refine ⟨Γ2, p x, t1, t2, fun h => ⟨fun y => y = ee (f x), (t3 h).x (x := ee (f x)) rfl, fun acc y ha hy => ?_⟩, fun h acc ha => ?_⟩
      · rw [ha, hy, tk]
        simp [h]
      · rw [ha, tk]
        simp [h]
  · rw [h]
    rw [List.length_map, List.take_length]
/-- without a test -/
theorem ev_lc0 {α β : Type} {wi : TI} {g : TG} {js vs : List Nat} (l : List α) (dd : α → PyData) (f : α → β) (ee : β → PyData) (hi : EvI c Γ wi (l.map dd)) (hz : l.length ≤ 50000) (hv : ∀ j ∈ js, j ∈ vs)
    (ht : ∀ x, x ∈ l → ∃ Γ2, Tg c g js (dd x) (wipeG Γ vs) Γ2 ∧ EvD c Γ2 te (ee (f x))) :
    EvD c Γ (tLc wi g tYes te vs) (.list ((l.map f).map ee)) := by
  refine Ev.to (ev_lc l dd f ee (fun _ => true) hi hz hv fun x hx => ?_) (by rw [List.filter_eq_self.mpr (fun _ _ => rfl)])
  obtain ⟨Γ2, h1, h2⟩ := ht x hx
  exact ⟨Γ2, h1, et_yes, fun _ => h2⟩
/-- each element some y of which G holds -/
theorem ev_lcX {α β : Type} {wi : TI} {g : TG} {js vs : List Nat} (l : List α) (dd : α → PyData) (ee : β → PyData) (G : β → Prop) (hi : EvI c Γ wi (l.map dd)) (hz : l.length ≤ 50000) (hv : ∀ j ∈ js, j ∈ vs)
    (ht : ∀ x, x ∈ l → ∃ Γ2, Tg c g js (dd x) (wipeG Γ vs) Γ2 ∧ Ev c Γ2 te (IsX G ee)) :
    Ev c Γ (tLc wi g tYes te vs) (IsX (fun ys : List β => ys.length = l.length ∧ ∀ y ∈ ys, G y) fun ys => .list (ys.map ee)) := by
  refine (ev_lcG hi (by simpa using hz) hv (fun acc i => ∃ ys : List β, acc = ys.map ee ∧ ys.length = i ∧ ∀ y ∈ ys, G y) ⟨[], rfl, rfl, fun y h => by simp at h⟩ fun i d hd => ?_).imp fun F v ⟨acc, h, p⟩ => ?_
  · rw [List.getElem?_map] at hd
    cases hx : l[i]? with
    | none => rw [hx] at hd; cases hd
    | some x =>
      rw [hx] at hd
      have hd : dd x = d := by simpa using hd
      subst hd
      obtain ⟨Γ2, t1, t2⟩ := ht x (List.mem_of_getElem? hx)
      refine ⟨Γ2, true, t1, et_yes, fun _ => ⟨fun y => ∃ b, G b ∧ y = ee b, t2.imp fun F v ⟨b, gb, pb⟩ => ⟨ee b, ⟨b, gb, rfl⟩, pb⟩, ?_⟩, fun z => by cases z⟩
      rintro acc y ⟨ys, e1, e2, e3⟩ ⟨b, gb, rfl⟩
      refine ⟨ys ++ [b], by simp [e1], by simp [e2], fun y hy => ?_⟩
      rcases List.mem_append.mp hy with h | h
      · exact e3 y h
      · have : y = b := by simpa using h
        rw [this]; exact gb
  · obtain ⟨ys, e1, e2, e3⟩ := h
    subst e1
    exact ⟨ys, ⟨by simpa using e2, e3⟩, p⟩
end

/-! ### calls -/
/-- a def that makes of its arguments something new and changes nothing: Rl heap arguments what -/
def spG (Rl : Hp → List V → (Hp → V → Prop) → Prop) : Sp := fun vs H Q _ => ∃ F R, Same F H ∧ Rl F vs R ∧ ∀ v F2 H2, Stp none F H F2 H2 → R F2 v → Q v H2
/-- .. of data -/
def RlD (f : List PyData → (Hp → V → Prop) → Prop) : Hp → List V → (Hp → V → Prop) → Prop := fun F vs R => ∃ ds, DtAll F vs ds ∧ f ds R
abbrev spD (f : List PyData → (Hp → V → Prop) → Prop) : Sp := spG (RlD f)
/-- a def whose first argument is the list that draws change -/
def spS (Rl : Hp → List V → (Hp → V → Prop) → Prop) : Sp := fun vs H Q _ => ∃ p r F R, vs = .ref p :: r ∧ Wf (some p) F H ∧ Rl F r R ∧ ∀ v F2 H2, Stp (some p) F H F2 H2 → R F2 v → Q v H2
section
variable {c : Option Addr} {Γ Γ2 : List Sl} {te ta tb tx : TE} {tr : TA} {P P' R : Hp → V → Prop} {Ps : List (Hp → V → Prop)} {Rl : Hp → List V → (Hp → V → Prop) → Prop} {s : Nat} {ds : List PyData} {f : List PyData → (Hp → V → Prop) → Prop}
theorem ev_callG (ha : EvA c Γ tr Ps) (h : ∀ F vs, All2 F Ps vs → Rl F vs R) : Ev c Γ (tCall (spG Rl) [] E0 tr) R := fun F H σ w E Q q => ha F H σ w E _ fun vs F1 H1 s1 p => by
  rw [List.append_nil]
  exact ⟨F1, R, s1.w.s, h F1 vs p, fun v F2 H2 s2 r => q v F2 H2 (s1.trans (s2.any s1.w)) r⟩
theorem ev_callD (ha : EvA c Γ tr (ds.map IsD)) (h : f ds R) : Ev c Γ (tCall (spD f) [] E0 tr) R := ev_callG ha fun F vs p => ⟨ds, all2_data p, h⟩
theorem ev_callS (hs : Γ[s]? = some .s) (ha : EvA c Γ tr Ps) (h : ∀ F vs, All2 F Ps vs → Rl F vs R) : Ev c Γ (tCall (spS Rl) [] E0 (tCons (tVar s) tr)) R := fun F H σ w E Q q => by
  obtain ⟨ov, e1, p, rfl, rfl⟩ := E.ok s _ hs
  refine ⟨.ref p, e1, ha F H σ w E _ fun vs F1 H1 s1 r => ?_⟩
  show spS Rl ((.ref p :: vs) ++ []) H1 Q E0
  rw [List.append_nil]
  exact ⟨p, vs, F1, R, rfl, s1.w, h F1 vs r, fun v F2 H2 s2 r => q v F2 H2 (s1.trans s2) r⟩
end
end KK
/-! K12D: statements of the layer, defs. -/
namespace KK
open PySem PySem.Spec PyProof.Rows L2
structure Bs where
  c : Option Addr
  F : Hp
  H : Hp
structure EnvB (B : Bs) (F H : Hp) (σ : L2.St) (Γ : List Sl) : Prop where
  st : Stp B.c B.F B.H F H
  env : Env B.c F H σ Γ
  fr : ∀ (i : Nat) (s : Sl) (l : Addr), Γ[i]? = some s → s.isC = true → σ[i]? = some (some (.ref l)) → B.H l = none
def Sx (B : Bs) (Γ : List Sl) (t : TS) (N : List Sl → Prop) (R : Hp → V → Prop) : Prop := ∀ F H σ, EnvB B F H σ Γ → ∀ D : Ends,
  (∀ Γ' F' H' σ', N Γ' → Same F F' → EnvB B F' H' σ' Γ' → D.nx σ' H') → (∀ v F' H', Stp B.c B.F B.H F' H' → R F' v → D.rt v H') → t D σ H
section
variable {B : Bs} {Γ Γ2 : List Sl} {F H F1 H1 : Hp} {σ σ2 : L2.St} {te ta tb tx tk tv : TE} {t u : TT} {ts tz tu tw : TS} {N M : List Sl → Prop} {P R : Hp → V → Prop} {K : PySem.W.Frag} {i j s : Nat} {d e : PyData} {ds es : List PyData} {wi : TI} {g : TG}
theorem EnvB.step (E : EnvB B F H σ Γ) (a : Stp B.c F H F1 H1) : EnvB B F1 H1 σ Γ := ⟨E.st.trans a, E.env.step a, E.fr⟩
theorem EnvB.sub (E : EnvB B F H σ Γ) (E2 : Env B.c F H σ2 Γ2) (u : Sub σ Γ σ2 Γ2) : EnvB B F H σ2 Γ2 :=
  ⟨E.st, E2, fun i s l h1 h2 h3 => let ⟨q1, q2⟩ := u i s l h1 h2 h3; E.fr i s l q1 h2 q2⟩
theorem EnvB.setO {v : V} (E : EnvB B F H σ Γ) (h : ∀ F', Same F F' → P F' v) : EnvB B F H (σ.set i (some v)) (Γ.set i (.o P)) := E.sub (E.env.setO h) (Sub.set rfl)
theorem EnvB.w (E : EnvB B F H σ Γ) : Wf B.c F H := E.st.w
/-- a new cell is stored -/
theorem EnvB.cell {l : Addr} {o : HO} {x : Sl} (E : EnvB B F H σ Γ) (hl : H l = none) (hx : x.isC = true) (k : ClOk F (upd H l o) l x) : EnvB B F (upd H l o) (σ.set i (some (.ref l))) (Γ.set i x) := by
  have s1 : Stp B.c F H F (upd H l o) := Stp.cell E.w hl
  have E1 := E.step s1
  have hn : ∀ (j : Nat) s, Γ[j]? = some s → s.isC = true → σ[j]? ≠ some (some (.ref l)) := fun j s h1 h2 h3 => by
    obtain ⟨ov, e1, q⟩ := E.env.ok j s h1
    rw [h3] at e1
    cases e1
    obtain ⟨l', e2, e3, e4, e5⟩ := q.cell h2
    cases e2
    exact e5.there hl
  refine ⟨E1.st, E1.env.set (SlOk.mk hx (E.w.free hl) (E.w.ne hl) k) fun _ j s h1 h2 h3 => absurd h3 (hn j s h1 h2), fun j s l' h1 h2 h3 => ?_⟩
  by_cases z : i = j
  · subst z
    by_cases y : i < Γ.length
    · rw [List.getElem?_set_self (by rw [E.env.len]; exact y)] at h3
      cases h3
      cases q : B.H l with
      | none => rfl
      | some o' =>
        exfalso
        exact E.st.k l (by rw [q]; simp) hl
    · rw [List.getElem?_eq_none (by simpa using y)] at h1
      cases h1
  · rw [List.getElem?_set_ne z] at h1 h3
    exact E.fr j s l' h1 h2 h3
/-- what a cell's slot tells -/
theorem EnvB.at_ {x : Sl} (E : EnvB B F H σ Γ) (hs : Γ[s]? = some x) (hx : x.isC = true) : ∃ l, σ[s]? = some (some (.ref l)) ∧ F l = none ∧ B.c ≠ some l ∧ ClOk F H l x ∧ B.H l = none := by
  obtain ⟨ov, e1, q⟩ := E.env.ok s x hs
  obtain ⟨l, rfl, e2, e3, e4⟩ := q.cell hx
  exact ⟨l, e1, e2, e3, e4, E.fr s x l hs hx e1⟩
/-- a cell's content is changed -/
theorem EnvB.put {l : Addr} {o : HO} {x y : Sl} (E : EnvB B F H σ Γ) (hs : Γ[s]? = some x) (hx : x.isC = true) (hl : σ[s]? = some (some (.ref l))) (hy : y.isC = true) (k : ClOk F (upd H l o) l y) : EnvB B F (upd H l o) σ (Γ.set s y) := by
  obtain ⟨l', e1, e2, e3, e4, e5⟩ := E.at_ hs hx
  rw [hl] at e1
  cases e1
  have hlt : s < Γ.length := by
    by_cases z : s < Γ.length
    · exact z
    · rw [List.getElem?_eq_none (by simpa using z)] at hs; cases hs
  have E0 : Env B.c F (upd H l o) (σ.set s none) (Γ.set s .u) := (E.env.wipe1).other fun j s' h1 h2 h3 => by
    by_cases z : s = j
    · subst z
      rw [List.getElem?_set_self hlt] at h1
      cases h1
      cases h2
    · rw [List.getElem?_set_ne z] at h1 h3
      exact z (E.env.ap s j x s' l hs h1 hx h2 hl h3)
  have E1 := E0.set (i := s) (v := .ref l) (SlOk.mk hy e2 e3 k) fun _ j s' h1 h2 h3 => by
    by_cases z : s = j
    · exact z
    · rw [List.getElem?_set_ne z] at h1 h3
      exact E.env.ap s j x s' l hs h1 hx h2 hl h3
  have eσ : (σ.set s none).set s (some (.ref l)) = σ := by
    rw [List.set_set]
    have hlσ : s < σ.length := by rw [E.env.len]; exact hlt
    apply List.ext_getElem?
    intro j
    by_cases z : s = j
    · subst z
      rw [List.getElem?_set_self hlσ, hl]
    · rw [List.getElem?_set_ne z]
  rw [eσ, List.set_set] at E1
  refine ⟨E.st.put e5 e2 e3, E1, fun j s' l' h1 h2 h3 => ?_⟩
  by_cases z : s = j
  · subst z
    rw [hl] at h3
    cases h3
    exact e5
  · rw [List.getElem?_set_ne z] at h1
    exact E.fr j s' l' h1 h2 h3
/-- a cell's content will not change any more -/
theorem EnvB.frz {l : Addr} {o : HO} {x : Sl} {P : Hp → V → Prop} (E : EnvB B F H σ Γ) (hs : Γ[s]? = some x) (hx : x.isC = true) (hl : σ[s]? = some (some (.ref l))) (ho : H l = some o) (hp : ∀ F', Same (upd F l o) F' → P F' (.ref l)) :
    EnvB B (upd F l o) H σ (Γ.set s (.o P)) := by
  obtain ⟨l', e1, e2, e3, e4, e5⟩ := E.at_ hs hx
  rw [hl] at e1
  cases e1
  have hlt : s < Γ.length := by
    by_cases z : s < Γ.length
    · exact z
    · rw [List.getElem?_eq_none (by simpa using z)] at hs; cases hs
  have sm := same_new (o := o) e2
  refine ⟨E.st.frz e5 e2 ho e3, ⟨by simpa using E.env.len, fun j s' h1 => ?_, fun a b s1 s2 m h1 h2 c1 c2 h3 h4 => ?_⟩, fun j s' m h1 h2 h3 => ?_⟩
  · by_cases z : s = j
    · subst z
      rw [List.getElem?_set_self hlt] at h1
      cases h1
      exact ⟨_, hl, .ref l, rfl, hp⟩
    · rw [List.getElem?_set_ne z] at h1
      obtain ⟨ov, q1, q2⟩ := E.env.ok j s' h1
      refine ⟨ov, q1, ?_⟩
      by_cases y : s'.isC = true
      · obtain ⟨m, rfl, r1, r2, r3⟩ := q2.cell y
        have nm : m ≠ l := fun w => by
          subst w
          exact z (E.env.ap s j x s' m hs h1 hx y hl q1)
        exact SlOk.mk y (by rw [upd_ne nm]; exact r1) r2 (r3.up sm fun _ q => q)
      · cases s' with
        | o P' => obtain ⟨v, r1, r2⟩ := q2; exact ⟨v, r1, fun F' e => r2 F' (sm.trans e)⟩
        | s => exact q2
        | u => exact q2
        | l _ => exact absurd rfl y
        | k _ => exact absurd rfl y
        | t _ => exact absurd rfl y
  · have q : ∀ {m : Nat} {s' : Sl}, (Γ.set s (Sl.o P))[m]? = some s' → s'.isC = true → s ≠ m := fun {m s'} h1 h2 z => by
      subst z
      rw [List.getElem?_set_self hlt] at h1
      cases h1
      cases h2
    have n1 := q h1 c1
    have n2 := q h2 c2
    rw [List.getElem?_set_ne n1] at h1
    rw [List.getElem?_set_ne n2] at h2
    exact E.env.ap a b s1 s2 m h1 h2 c1 c2 h3 h4
  · by_cases z : s = j
    · subst z
      rw [List.getElem?_set_self hlt] at h1
      cases h1
      cases h2
    · rw [List.getElem?_set_ne z] at h1
      exact E.fr j s' m h1 h2 h3

/-! ### statements -/
theorem Sx.imp (h : Sx B Γ ts M R) (k : ∀ Γ', M Γ' → N Γ') : Sx B Γ ts N R := fun F H σ E D dn dr => h F H σ E D (fun Γ' F' H' σ' m => dn Γ' F' H' σ' (k Γ' m)) dr
theorem sx_seq (h : Sx B Γ ts M R) (k : ∀ Γ', M Γ' → Sx B Γ' tz N R) : Sx B Γ (tSeq ts tz) N R := fun F H σ E D dn dr =>
  h F H σ E { D with nx := tz D } (fun Γ' F' H' σ' m e E' => k Γ' m F' H' σ' E' D (fun Γ2 F2 H2 σ2 n e2 E2 => dn Γ2 F2 H2 σ2 n (e.trans e2) E2) dr) dr
theorem sx_one (h : Sx B Γ (tSeq ts tNext) N R) : Sx B Γ ts N R := h
theorem sx_next (h : N Γ) : Sx B Γ tNext N R := fun F H σ E D dn dr => dn Γ F H σ h (Same.refl F) E
theorem sx_ret (h : Ev B.c Γ te R) : Sx B Γ (tRet te) N R := fun F H σ E D dn dr => h F H σ E.w E.env _ fun v F2 H2 s p => dr v F2 H2 (E.st.trans s) p
theorem q_asgM [Mn P] (h : Ev B.c Γ te P) (k : Sx B (Γ.set i (.o P)) tz N R) : Sx B Γ (tSeq (tAsg te (gName i)) tz) N R := fun F H σ E D dn dr =>
  h F H σ E.w E.env _ fun v F2 H2 s p => k F2 H2 _ ((E.step s).setO fun F' e => Mn.up _ _ _ e p) D (fun Γ' F' H' σ' n e => dn Γ' F' H' σ' n (s.f.trans e)) dr
theorem q_asg (h : EvD B.c Γ te d) (k : Sx B (Γ.set i (.d d)) tz N R) : Sx B Γ (tSeq (tAsg te (gName i)) tz) N R := q_asgM h k
theorem q_asgX {α : Type} {G : α → Prop} {f : α → PyData} (h : Ev B.c Γ te (IsX G f)) (k : ∀ x, G x → Sx B (Γ.set i (.d (f x))) tz N R) : Sx B Γ (tSeq (tAsg te (gName i)) tz) N R := fun F H σ E D dn dr =>
  h F H σ E.w E.env _ fun v F2 H2 s ⟨x, gx, p⟩ => k x gx F2 H2 _ ((E.step s).setO fun F' e => Dt.up e _ _ p) D (fun Γ' F' H' σ' n e => dn Γ' F' H' σ' n (s.f.trans e)) dr
theorem q_unp {js : List Nat} (h : EvD B.c Γ te d) (tg : Tg B.c g js d Γ Γ2) (k : Sx B Γ2 tz N R) : Sx B Γ (tSeq (tAsg te g) tz) N R := fun F H σ E D dn dr =>
  h F H σ E.w E.env _ fun v F2 H2 s p => tg F2 H2 σ v s.w (E.step s).env p _ fun σ2 E2 u _ => k F2 H2 σ2 ((E.step s).sub E2 u) D (fun Γ' F' H' σ' n e => dn Γ' F' H' σ' n (s.f.trans e)) dr
theorem sx_if {b : Bool} (h : EvT B.c Γ t b) (h1 : b = true → Sx B Γ tu N R) (h2 : b = false → Sx B Γ tw N R) : Sx B Γ (tIfS t tu tw) N R := fun F H σ E D dn dr =>
  h F H σ E.w E.env _ fun F2 H2 s => by
    cases b with
    | true => exact iteT (h1 rfl F2 H2 σ (E.step s) D (fun Γ' F' H' σ' n e => dn Γ' F' H' σ' n (s.f.trans e)) dr)
    | false => exact iteF (h2 rfl F2 H2 σ (E.step s) D (fun Γ' F' H' σ' n e => dn Γ' F' H' σ' n (s.f.trans e)) dr)
theorem q_if {b : Bool} (h : EvT B.c Γ t b) (h1 : b = true → Sx B Γ tu M R) (h2 : b = false → Sx B Γ tw M R) (k : ∀ Γ', M Γ' → Sx B Γ' tz N R) : Sx B Γ (tSeq (tIfS t tu tw) tz) N R := sx_seq (sx_if h h1 h2) k
/-- if c: .. return: the rest is behind a false c -/
theorem q_ifR {b : Bool} (h : EvT B.c Γ t b) (h1 : b = true → Sx B Γ tu (fun _ => False) R) (k : b = false → Sx B Γ tz N R) : Sx B Γ (tSeq (tIfS t tu tNext) tz) N R :=
  q_if (M := fun Γ' => Γ' = Γ ∧ b = false) h (fun e => (h1 e).imp fun _ z => z.elim) (fun e => sx_next ⟨rfl, e⟩) fun Γ' e => by
    rw [e.1]
    exact k e.2
theorem sx_for (hi : EvI B.c Γ wi ds) (Iv : Nat → List Sl → Prop) (h0 : Iv 0 Γ) (hs : ∀ i d Γ', ds[i]? = some d → Iv i Γ' → ∃ Γ2 js, Tg B.c g js d Γ' Γ2 ∧ Sx B Γ2 tu (Iv (i + 1)) R) : Sx B Γ (tFor wi g tu) (Iv ds.length) R := fun F H σ E D dn dr => by
  refine hi F H σ E.w E.env _ fun J F1 H1 s1 wk => ?_
  refine ⟨fun i m σ' H' => m = ds.length - i ∧ i ≤ ds.length ∧ ∃ Γ' F', Iv i Γ' ∧ Same F1 F' ∧ EnvB B F' H' σ' Γ', ⟨ds.length, rfl, Nat.zero_le _, Γ, F1, h0, Same.refl _, E.step s1⟩, ?_⟩
  rintro i m σ' H' ⟨rfl, hle, Γ', F', iv, sm, E'⟩
  obtain ⟨wg, ws, wy⟩ := wk F' H' sm E'.w
  by_cases hlt : i < ds.length
  · refine .inr ⟨wg i hlt, fun σ2 H2 => ∃ Γ2 F2, Iv (i + 1) Γ2 ∧ Same F1 F2 ∧ EnvB B F2 H2 σ2 Γ2, fun σ2 H2 h => ⟨ds.length - (i + 1), by omega, rfl, hlt, h⟩, fun x H2 y => ?_⟩
    obtain ⟨F2, d, s3, hd, hx⟩ := wy i x H2 hlt y
    obtain ⟨Γ2, js, tg, k⟩ := hs i d Γ' hd iv
    have E2 := E'.step s3
    refine tg F2 H2 σ' x s3.w E2.env hx _ fun σ2 E3 u _ => ?_
    exact k F2 H2 σ2 (E2.sub E3 u) { D with nx := _, ct := _, bk := D.nx } (fun Γ3 F3 H3 σ3 n e E4 => ⟨Γ3, F3, n, (sm.trans s3.f).trans e, E4⟩) dr
  · have e : i = ds.length := by omega
    subst e
    exact .inl ⟨ws, dn Γ' F' H' σ' iv (s1.f.trans sm) E'⟩
theorem q_for (hi : EvI B.c Γ wi ds) (Iv : Nat → List Sl → Prop) (h0 : Iv 0 Γ) (hs : ∀ i d Γ', ds[i]? = some d → Iv i Γ' → ∃ Γ2 js, Tg B.c g js d Γ' Γ2 ∧ Sx B Γ2 tu (Iv (i + 1)) R) (k : ∀ Γ', Iv ds.length Γ' → Sx B Γ' tz N R) : Sx B Γ (tSeq (tFor wi g tu) tz) N R :=
  sx_seq (sx_for hi Iv h0 hs) k
theorem q_while (Iv : Nat → List Sl → Prop) (m0 : Nat) (h0 : Iv m0 Γ) (hs : ∀ m Γ', Iv m Γ' → ∃ b, EvT B.c Γ' t b ∧ (b = true → Sx B Γ' tu (fun Γ2 => ∃ m', m' < m ∧ Iv m' Γ2) R) ∧ (b = false → Sx B Γ' tz N R)) : Sx B Γ (tSeq (tWhile t tu) tz) N R := fun F H σ E D dn dr => by
  refine ⟨fun m σ' H' => ∃ Γ' F', Iv m Γ' ∧ Same F F' ∧ EnvB B F' H' σ' Γ', ⟨m0, Γ, F, h0, Same.refl _, E⟩, ?_⟩
  rintro m σ' H' ⟨Γ', F', iv, sm, E'⟩
  obtain ⟨b, ht, k1, k2⟩ := hs m Γ' iv
  refine ht F' H' σ' E'.w E'.env _ fun F2 H2 s => ?_
  cases b with
  | true =>
    refine iteT ⟨fun σ2 H3 => ∃ m', m' < m ∧ ∃ Γ2 F3, Iv m' Γ2 ∧ Same F F3 ∧ EnvB B F3 H3 σ2 Γ2, fun σ2 H3 h => h, ?_⟩
    refine k1 rfl F2 H2 σ' (E'.step s) { D with nx := _, ct := _, bk := _ } (fun Γ3 F3 H3 σ3 n e E4 => ?_) dr
    obtain ⟨m', hm, n⟩ := n
    exact ⟨m', hm, Γ3, F3, n, (sm.trans s.f).trans e, E4⟩
  | false =>
    exact iteF (k2 rfl F2 H2 σ' (E'.step s) D (fun Γ3 F3 H3 σ3 n e E4 => dn Γ3 F3 H3 σ3 n ((sm.trans s.f).trans e) E4) dr)
theorem et_tru {c : Option Addr} (h : EvD c Γ ta (.list ds)) : EvT c Γ (fun σ H Q => ta σ H fun x H' => ∃ k, TruV K x H' k ∧ Q k H') (!ds.isEmpty) := fun F H σ w E Q q => h F H σ w E _ fun v F1 H1 s1 p => by
  obtain ⟨a, xs, rfl, hl, r⟩ := Dt.lst_ex p
  refine ⟨!ds.isEmpty, .inl ⟨xs, SqL.of (s1.w.s _ _ hl), ?_⟩, q F1 H1 s1⟩
  have := r.len
  cases xs <;> cases ds <;> first | rfl | simp at this
/-! ### cells -/
theorem q_newL (k : Sx B (Γ.set i (.l [])) tz N R) : Sx B Γ (tSeq (tAsg (tLst tNil) (gName i)) tz) N R := fun F H σ E D dn dr => by
  refine ⟨Nat.zero_le _, fun l hl => ?_⟩
  exact k F _ _ (E.cell hl rfl ⟨[], upd_same, .nil⟩) D dn dr
theorem q_newK (k : Sx B (Γ.set i (.k [])) tz N R) : Sx B Γ (tSeq (tAsg tDNewK (gName i)) tz) N R := fun F H σ E D dn dr => by
  intro l hl
  exact k F _ _ (E.cell (x := .k []) hl rfl upd_same) D dn dr
theorem q_newT (k : Sx B (Γ.set i (.t [])) tz N R) : Sx B Γ (tSeq (tAsg tDNewT (gName i)) tz) N R := fun F H σ E D dn dr => by
  intro l hl
  exact k F _ _ (E.cell (x := .t []) hl rfl upd_same) D dn dr
theorem lt_sz {n : Nat} (h : n < 100000) : n < sizeLine := Nat.lt_of_lt_of_le h (by decide)
theorem q_app (hs : Γ[s]? = some (.l ds)) (h : EvD B.c Γ te d) (hz : ds.length < 100000) (k : Sx B (Γ.set s (.l (ds ++ [d]))) tz N R) : Sx B Γ (tSeq (tDrop (tBM K "list" rAppend (tVar s) (tCons te tNil))) tz) N R := fun F H σ E D dn dr => by
  obtain ⟨l, e1, e2, e3, ⟨xs, hl, r⟩, e5⟩ := E.at_ hs rfl
  refine ⟨.ref l, e1, .inl ⟨rfl, _, .inl (.inl hl)⟩, ?_⟩
  refine h F H σ E.w E.env _ fun v F1 H1 s1 p => ?_
  have hl1 := s1.h _ _ e3 hl
  have r1 := DtAll.up s1.f _ _ r
  refine ⟨l, xs, v, rfl, rfl, hl1, lt_sz (by rw [r.len]; exact hz), ?_⟩
  exact k F1 _ σ ((E.step s1).put hs rfl e1 (y := .l (ds ++ [d])) rfl ⟨xs ++ [v], upd_same, r1.app (.one p)⟩) D (fun Γ' F' H' σ' n e => dn Γ' F' H' σ' n (s1.f.trans e)) dr
theorem list_set_self {α : Type} {l : List α} {n : Nat} {x : α} (h : l[n]? = some x) : l.set n x = l := by
  apply List.ext_getElem?
  intro j
  by_cases z : n = j
  · subst z
    rw [List.getElem?_set_self (by by_cases y : n < l.length; exact y; rw [List.getElem?_eq_none (by omega)] at h; cases h), h]
  · rw [List.getElem?_set_ne z]
theorem q_ext (hs : Γ[s]? = some (.l ds)) (h : EvD B.c Γ te (.list es)) (hz : ds.length + es.length ≤ 100000) (k : Sx B (Γ.set s (.l (ds ++ es))) tz N R) : Sx B Γ (tSeq (tAug s te rExt2) tz) N R := fun F H σ E D dn dr => by
  obtain ⟨l, e1, e2, e3, ⟨xs, hl, r⟩, e5⟩ := E.at_ hs rfl
  refine ⟨.ref l, e1, ?_⟩
  refine h F H σ E.w E.env _ fun v F1 H1 s1 p => ?_
  obtain ⟨b, ys, rfl, hb, r2⟩ := Dt.lst_ex p
  have hl1 := s1.h _ _ e3 hl
  have r1 := DtAll.up s1.f _ _ r
  refine ⟨l, b, xs, ys, rfl, rfl, hl1, s1.w.s _ _ hb, sz_ok (by rw [r.len, r2.len]; exact hz), ?_⟩
  show tz D (σ.set s (some (.ref l))) _
  rw [list_set_self e1]
  exact k F1 _ σ ((E.step s1).put hs rfl e1 (y := .l (ds ++ es)) rfl ⟨xs ++ ys, upd_same, r1.app r2⟩) D (fun Γ' F' H' σ' n e => dn Γ' F' H' σ' n (s1.f.trans e)) dr
theorem q_putK {kvs : List (L2.Key × V)} (hs : Γ[s]? = some (.k kvs)) (hv : EvD B.c Γ tv (dI j)) (hk : EvD B.c Γ tk (dI i)) (hz : kvs.length < 100000) (k : Sx B (Γ.set s (.k (putK kvs (kN i) (vN j)))) tz N R) : Sx B Γ (tSeq (sDPut (tVar s) tk tv) tz) N R := fun F H σ E D dn dr => by
  refine hv F H σ E.w E.env _ fun v F1 H1 s1 p => ?_
  obtain ⟨l, e1, e2, e3, hl, e5⟩ := (E.step s1).at_ hs rfl
  have hl : H1 l = some (.dK kvs) := hl
  refine ⟨.ref l, e1, ?_⟩
  refine hk F1 H1 σ s1.w (E.step s1).env _ fun y F2 H2 s2 p2 => ?_
  have hl2 := s2.h _ _ e3 hl
  rw [Dt.int_eq p2, Dt.int_eq p]
  refine ⟨l, _, rfl, DPut.k (k := kN i) hl2 (lt_sz hz), ?_⟩
  exact k F2 _ σ (((E.step s1).step s2).put hs rfl e1 (y := .k (putK kvs (kN i) (vN j))) rfl upd_same) D (fun Γ' F' H' σ' n e => dn Γ' F' H' σ' n ((s1.f.trans s2.f).trans e)) dr
theorem q_putT {kvs : List (List L2.Key × V)} {l : List Nat} (hs : Γ[s]? = some (.t kvs)) (hv : EvD B.c Γ tv (dI j)) (hk : EvD B.c Γ tk (.tuple (l.map dI))) (hz : kvs.length < 100000) (k : Sx B (Γ.set s (.t (putK kvs (kT l) (vN j)))) tz N R) : Sx B Γ (tSeq (sDPut (tVar s) tk tv) tz) N R := fun F H σ E D dn dr => by
  refine hv F H σ E.w E.env _ fun v F1 H1 s1 p => ?_
  obtain ⟨a, e1, e2, e3, hl, e5⟩ := (E.step s1).at_ hs rfl
  have hl : H1 a = some (.dT kvs) := hl
  refine ⟨.ref a, e1, ?_⟩
  refine hk F1 H1 σ s1.w (E.step s1).env _ fun y F2 H2 s2 p2 => ?_
  have hl2 := s2.h _ _ e3 hl
  obtain ⟨b, xs, rfl, hb, r⟩ := Dt.tup_ex p2
  rw [Dt.int_eq p]
  refine ⟨a, _, rfl, DPut.t (k := kT l) (b := b) hl2 (by rw [← key_dt r]; exact s2.w.s _ _ hb) (lt_sz hz), ?_⟩
  exact k F2 _ σ (((E.step s1).step s2).put hs rfl e1 (y := .t (putK kvs (kT l) (vN j))) rfl upd_same) D (fun Γ' F' H' σ' n e => dn Γ' F' H' σ' n ((s1.f.trans s2.f).trans e)) dr
/-- no more changes -/
theorem q_frz (s : Nat) (k : Sx B (Γ.set s (.d (.list ds))) ts N R) (hs : Γ[s]? = some (.l ds) := by rfl) : Sx B Γ ts N R := fun F H σ E D dn dr => by
  obtain ⟨l, e1, e2, e3, ⟨xs, hl, r⟩, e5⟩ := E.at_ hs rfl
  have sm := same_new (o := .lst xs) e2
  exact k (upd F l (.lst xs)) H σ (E.frz hs rfl e1 hl fun F' e => .lst (e _ _ upd_same) (DtAll.up (sm.trans e) _ _ r)) D (fun Γ' F' H' σ' n e => dn Γ' F' H' σ' n (sm.trans e)) dr
theorem q_frzK (s : Nat) {kvs : List (L2.Key × V)} (k : Sx B (Γ.set s (.o (IsK kvs))) ts N R) (hs : Γ[s]? = some (.k kvs) := by rfl) : Sx B Γ ts N R := fun F H σ E D dn dr => by
  obtain ⟨l, e1, e2, e3, hl, e5⟩ := E.at_ hs rfl
  exact k (upd F l (.dK kvs)) H σ (E.frz hs rfl e1 hl fun F' e => ⟨l, rfl, e _ _ upd_same⟩) D (fun Γ' F' H' σ' n e => dn Γ' F' H' σ' n ((same_new e2).trans e)) dr
theorem q_frzT (s : Nat) {kvs : List (List L2.Key × V)} (k : Sx B (Γ.set s (.o (IsT kvs))) ts N R) (hs : Γ[s]? = some (.t kvs) := by rfl) : Sx B Γ ts N R := fun F H σ E D dn dr => by
  obtain ⟨l, e1, e2, e3, hl, e5⟩ := E.at_ hs rfl
  exact k (upd F l (.dT kvs)) H σ (E.frz hs rfl e1 hl fun F' e => ⟨l, rfl, e _ _ upd_same⟩) D (fun Γ' F' H' σ' n e => dn Γ' F' H' σ' n ((same_new e2).trans e)) dr
/-- a slot is forgotten -/
theorem q_drop (s : Nat) (k : Sx B (Γ.set s .u) ts N R) : Sx B Γ ts N R := fun F H σ E D dn dr => by
  refine k F H σ ⟨E.st, ⟨by simpa using E.env.len, fun j s' h1 => ?_, fun a b s1 s2 m h1 h2 c1 c2 h3 h4 => ?_⟩, fun j s' m h1 h2 h3 => ?_⟩ D dn dr
  · by_cases z : s = j
    · subst z
      by_cases y : s < Γ.length
      · rw [List.getElem?_set_self y] at h1
        cases h1
        exact ⟨σ[s]'(by rw [E.env.len]; exact y), by rw [List.getElem?_eq_getElem], True.intro⟩
      · rw [List.getElem?_eq_none (by simpa using y)] at h1
        cases h1
    · rw [List.getElem?_set_ne z] at h1
      exact E.env.ok j s' h1
  · have q : ∀ {m : Nat} {s' : Sl}, (Γ.set s Sl.u)[m]? = some s' → s'.isC = true → s ≠ m := fun {m s'} h1 h2 z => by
      subst z
      by_cases y : s < Γ.length
      · rw [List.getElem?_set_self y] at h1
        cases h1
        cases h2
      · rw [List.getElem?_eq_none (by simpa using y)] at h1
        cases h1
    rw [List.getElem?_set_ne (q h1 c1)] at h1
    rw [List.getElem?_set_ne (q h2 c2)] at h2
    exact E.env.ap a b s1 s2 m h1 h2 c1 c2 h3 h4
  · by_cases z : s = j
    · subst z
      by_cases y : s < Γ.length
      · rw [List.getElem?_set_self y] at h1
        cases h1
        cases h2
      · rw [List.getElem?_eq_none (by simpa using y)] at h1
        cases h1
    · rw [List.getElem?_set_ne z] at h1
      exact E.fr j s' m h1 h2 h3
/-- made.append(left.pop(i)) -/
theorem q_appPop {s2 : Nat} {G : Nat → Prop} (hs : Γ[s]? = some (.l ds)) (hs2 : Γ[s2]? = some (.l es)) (hne : s ≠ s2) (h : Ev B.c Γ te (IsX (fun n : Nat => n < es.length) dI)) (hz : ds.length < 100000) (hz2 : es.length < 100000)
    (k : ∀ n d, es[n]? = some d → Sx B ((Γ.set s2 (.l (es.eraseIdx n))).set s (.l (ds ++ [d]))) tz N R) : Sx B Γ (tSeq (tDrop (tBM K "list" rAppend (tVar s) (tCons (tBM K "list" rPopAt (tVar s2) (tCons te tNil)) tNil))) tz) N R := fun F H σ E D dn dr => by
  obtain ⟨l, e1, e2, e3, ⟨xs, hl, r⟩, e5⟩ := E.at_ hs rfl
  obtain ⟨l2, f1, f2, f3, ⟨ys, hl2, r2⟩, f5⟩ := E.at_ hs2 rfl
  have nl : l ≠ l2 := fun z => by
    subst z
    exact hne (E.env.ap s s2 _ _ l hs hs2 rfl rfl e1 f1)
  refine ⟨.ref l, e1, .inl ⟨rfl, _, .inl (.inl hl)⟩, ?_⟩
  refine ⟨.ref l2, f1, .inl ⟨rfl, _, .inl (.inl hl2)⟩, ?_⟩
  refine h F H σ E.w E.env _ fun v F1 H1 s1 ⟨n, hn, p⟩ => ?_
  have hd : es[n]? = some es[n] := List.getElem?_eq_getElem hn
  have q2 := DtAll.up s1.f _ _ r2
  obtain ⟨y, hy, py⟩ := q2.get hd
  have hlen := r2.len
  have hnat : seqIndex? (n : Int) ys.length = some n := by
    unfold seqIndex?
    simp
    omega
  refine ⟨l2, ys, (n : Int), n, y, rfl, by rw [Dt.int_eq p], s1.h _ _ f3 hl2, by omega, by omega, hnat, hy, ?_⟩
  have er : DtAll F1 (ys.eraseIdx n) (es.eraseIdx n) := by
    rw [List.eraseIdx_eq_take_drop_succ, List.eraseIdx_eq_take_drop_succ]
    exact (q2.take n).app (q2.drop (n + 1))
  have E2 := (E.step s1).put hs2 rfl f1 (o := .lst (ys.eraseIdx n)) (y := .l (es.eraseIdx n)) rfl ⟨_, upd_same, er⟩
  have hl3 : (upd H1 l2 (.lst (ys.eraseIdx n))) l = some (.lst xs) := by
    rw [upd_ne nl]
    exact s1.h _ _ e3 hl
  refine ⟨l, xs, y, rfl, rfl, hl3, lt_sz (by rw [r.len]; exact hz), ?_⟩
  have hs' : (Γ.set s2 (.l (es.eraseIdx n)))[s]? = some (.l ds) := by rw [List.getElem?_set_ne (Ne.symm hne)]; exact hs
  exact k n _ hd F1 _ σ (E2.put hs' rfl e1 (y := .l (ds ++ [es[n]])) rfl ⟨xs ++ [y], upd_same, (DtAll.up s1.f _ _ r).app (.one py)⟩) D (fun Γ' F' H' σ' n e => dn Γ' F' H' σ' n (s1.f.trans e)) dr
end

/-! ### defs -/
section
variable {P : Program} {w : World} {K : PySem.W.Frag} {mg : Str → Option Value} {base : Heap}
def gam (ds : List PyData) (n : Nat) : List Sl := ds.map Sl.d ++ List.replicate n .u
theorem env_start {c : Option Addr} {F H : Hp} {N : List Str} {vs : List V} {ds : List PyData} (r : DtAll F vs ds) : Env c F H (start N vs) (gam ds (N.length - ds.length)) := by
  have hl := r.len
  refine ⟨by simp [L2.start, gam, hl], fun i s h => ?_, fun i j s1 s2 l h1 h2 c1 c2 h3 h4 => ?_⟩
  · by_cases hi : i < ds.length
    · obtain ⟨v, q1, q2⟩ := r.get (n := i) (d := ds[i]) (by rw [List.getElem?_eq_getElem])
      have e1 : (gam ds (N.length - ds.length))[i]? = some (Sl.d ds[i]) := by
        unfold gam
        rw [List.getElem?_append_left (by simpa using hi), List.getElem?_map, List.getElem?_eq_getElem hi]
        rfl
      rw [e1] at h
      cases h
      refine ⟨some v, ?_, v, rfl, fun F' e => Dt.up e _ _ q2⟩
      unfold L2.start
      rw [List.getElem?_append_left (by simp; omega), List.getElem?_map, q1]
      rfl
    · have e1 : (gam ds (N.length - ds.length))[i]? = (List.replicate (N.length - ds.length) Sl.u)[i - ds.length]? := by
        unfold gam
        rw [List.getElem?_append_right (by simp; omega)]
        simp
      rw [e1] at h
      have hb : i - ds.length < N.length - ds.length := by
        by_cases z : i - ds.length < N.length - ds.length
        · exact z
        · rw [List.getElem?_eq_none (by simp; omega)] at h; cases h
      rw [List.getElem?_replicate, if_pos hb] at h
      cases h
      refine ⟨none, ?_, True.intro⟩
      unfold L2.start
      rw [List.getElem?_append_right (by simp; omega)]
      simp only [List.length_map, hl]
      rw [List.getElem?_replicate, if_pos hb]
  · have q : ∀ {i : Nat} {s : Sl}, (gam ds (N.length - ds.length))[i]? = some s → s.isC = true → False := fun {i s} h c => by
      have hm := List.mem_of_getElem? h
      unfold gam at hm
      rcases List.mem_append.mp hm with z | z
      · obtain ⟨d, _, rfl⟩ := List.mem_map.mp z
        cases c
      · rw [(List.mem_replicate.mp z).2] at c
        cases c
    exact (q h1 c1).elim
/-- a def of data -/
theorem fn_d {x qual : Str} {st : Stmt} {f : Addr} {fd : FuncData} {N ps : List Str} {k : Nat} {fs : List PyData → (Hp → V → Prop) → Prop} (Fn : Fun K x qual st f fd) (S : FnScope N ps (defScope st)) (len : ∀ ds R, fs ds R → ds.length = ps.length)
    (hb : ∀ (cdv : Value) (A : Around) (outer : List PySem.Env) (s : Shared) (H : Hp) (E : XK), Room k (A.deeper (envOfC qual (defScope st) s.heap.objs.size f cdv)) →
      ∃ t, PSs (cxOf CX0 P w K mg base N qual (defScope st) f cdv A outer s H E).nox (defBody st) t ∧ ∀ F0 H0 ds R, fs ds R → Sx ⟨none, F0, H0⟩ (gam ds (N.length - ds.length)) t (fun _ => False) R) :
    FnOk P w K mg base CX0 (k + 1) f fd ps (spD fs) := by
  refine Fn.ok S (fun vs H Q E h => ?_) (fun cdv A outer s H vs Q E hr h => ?_)
  · obtain ⟨F, R, _, ⟨ds, r, hf⟩, _⟩ := h
    rw [r.len]
    exact len ds R hf
  · obtain ⟨F, R, sm, ⟨ds, r, hf⟩, q⟩ := h
    obtain ⟨t, h1, h2⟩ := hb cdv A outer s H E hr
    refine ⟨t, h1, ?_⟩
    have e0 := env_start (c := none) (H := H) (N := N) r
    refine h2 F H ds R hf F H (start N vs) ⟨Stp.refl (Wf.nil sm), e0, fun i s l h1 h2 h3 => ?_⟩ _ (fun _ _ _ _ z => z.elim) fun v F' H' st p => q v F' H' st p
    have hm := List.mem_of_getElem? h1
    unfold gam at hm
    rcases List.mem_append.mp hm with z | z
    · obtain ⟨d, _, rfl⟩ := List.mem_map.mp z
      cases h2
    · rw [(List.mem_replicate.mp z).2] at h2
      cases h2
/-- a def that draws, and data -/
def RlS (f : List PyData → (Hp → V → Prop) → Prop) : Hp → List V → (Hp → V → Prop) → Prop := RlD f
theorem fn_s {x qual : Str} {st : Stmt} {f : Addr} {fd : FuncData} {N ps : List Str} {k : Nat} {fs : List PyData → (Hp → V → Prop) → Prop} (Fn : Fun K x qual st f fd) (S : FnScope N ps (defScope st)) (len : ∀ ds R, fs ds R → ds.length + 1 = ps.length)
    (hb : ∀ (cdv : Value) (A : Around) (outer : List PySem.Env) (s : Shared) (H : Hp) (E : XK), Room k (A.deeper (envOfC qual (defScope st) s.heap.objs.size f cdv)) →
      ∃ t, PSs (cxOf CX0 P w K mg base N qual (defScope st) f cdv A outer s H E).nox (defBody st) t ∧ ∀ p F0 H0 ds R, fs ds R → Sx ⟨some p, F0, H0⟩ (.s :: gam ds (N.length - 1 - ds.length)) t (fun _ => False) R) (hN : 0 < N.length := by decide) :
    FnOk P w K mg base CX0 (k + 1) f fd ps (spS (RlD fs)) := by
  refine Fn.ok S (fun vs H Q E h => ?_) (fun cdv A outer s H vs Q E hr h => ?_)
  · obtain ⟨p, r, F, R, rfl, _, ⟨ds, r, hf⟩, _⟩ := h
    rw [List.length_cons, r.len]
    exact len ds R hf
  · obtain ⟨p, vr, F, R, rfl, wf, ⟨ds, r, hf⟩, q⟩ := h
    obtain ⟨t, h1, h2⟩ := hb cdv A outer s H E hr
    refine ⟨t, h1, ?_⟩
    obtain ⟨n0, N', rfl⟩ : ∃ n0 N', N = n0 :: N' := by
      cases N with
      | nil => simp at hN
      | cons a b => exact ⟨a, b, rfl⟩
    have e0 := env_start (c := some p) (H := H) (N := N') r
    have es : start (n0 :: N') (.ref p :: vr) = some (.ref p) :: start N' vr := by
      unfold L2.start
      simp
    have nc : ∀ {i : Nat} {s : Sl}, (Sl.s :: gam ds (N'.length - ds.length))[i]? = some s → s.isC = true → False := fun {i s} h c => by
      have hm := List.mem_of_getElem? h
      rcases List.mem_cons.mp hm with z | hm
      · rw [z] at c
        cases c
      unfold gam at hm
      rcases List.mem_append.mp hm with z | z
      · obtain ⟨d, _, rfl⟩ := List.mem_map.mp z
        cases c
      · rw [(List.mem_replicate.mp z).2] at c
        cases c
    have e1 : Env (some p) F H (start (n0 :: N') (.ref p :: vr)) (.s :: gam ds (N'.length - ds.length)) := by
      rw [es]
      refine ⟨by simp [e0.len], fun i s h => ?_, fun i j s1 s2 l h1 h2 c1 c2 h3 h4 => (nc h1 c1).elim⟩
      cases i with
      | zero =>
        cases h
        exact ⟨_, rfl, p, rfl, rfl⟩
      | succ i => exact e0.ok i s (by simpa using h)
    have e2 : (n0 :: N').length - 1 - ds.length = N'.length - ds.length := by simp
    have h2 := h2 p F H ds R hf
    rw [e2] at h2
    exact h2 F H _ ⟨Stp.refl wf, e1, fun i s l h1 h2 h3 => (nc h1 h2).elim⟩ _ (fun _ _ _ _ z => z.elim) fun v F' H' st p => q v F' H' st p
end
end KK
/-! K12E: what a def is handed of the program's top; short forms. -/
namespace KK
open PySem PySem.Spec PyProof.Rows L2
/-- the built-in names are the built-in ones; the module's number -/
structure Bt (mg : Str → Option Value) : Prop where
  len : mg "len" = none
  range : mg "range" = none
  tuple : mg "tuple" = none
  list : mg "list" = none
  int : mg "int" = none
  max : mg "max" = none
  min : mg "min" = none
  enumerate : mg "enumerate" = none
  zip : mg "zip" = none
  sorted : mg "sorted" = none
/-- a def of the top and its promise -/
structure Cl (P : Program) (w : World) (K : PySem.W.Frag) (mg : Str → Option Value) (base : Heap) (k : Nat) (x : Str) (ps : List Str) (sp : Sp) : Prop where
  ex : ∃ (f : Addr) (fd : FuncData), FnOk P w K mg base CX0 k f fd ps sp ∧ mg x = some (.ref f) ∧ PySem.W.keepIn K (.ref f) = true ∧ Binds K fd ps []
/-- a method of the class at C -/
structure Cm (P : Program) (w : World) (K : PySem.W.Frag) (mg : Str → Option Value) (base : Heap) (k : Nat) (C : Addr) (m : Str) (ps : List Str) (sp : Sp) : Prop where
  cls : Cls K C
  ex : ∃ (f : Addr) (fd : FuncData), FnOk P w K mg base CX0 k f fd ps sp ∧ Meth K C m f ∧ Binds K fd ps []
/-- the class's making -/
structure Ck (P : Program) (w : World) (K : PySem.W.Frag) (mg : Str → Option Value) (base : Heap) (k : Nat) (C : Addr) (x : Str) (ps : List Str) (sp : Sp) : Prop where
  ex : ∃ (f : Addr) (fd : FuncData), FnOk P w K mg base CX0 k f fd ps sp ∧ Mk K C f ∧ mg x = some (.ref C) ∧ Binds K fd ps []
section
variable {X : Cx} {k : Nat} {x : Str} {ps : List Str} {sp : Sp} {p pos apos : Pos} {e o : Expr} {es : List Expr} {t : TA} {ta : TE} {C : Addr} {m : Str}
theorem pe_c (D : Cl X.prog X.w X.K X.mg X.base k x ps sp) (hr : Room k X.A) (ha : PA X (e :: es) t) (hg : Gl X x := by rfl) (hdb : (x == ("__debug__" : Str)) = false := by decide)
    (he : starEach (e :: es) X.env = (false, eval e X.env) :: starEach es X.env := by rfl) (hpl : (backTo pos (starEach es X.env)).any (·.1) = false := by rfl) : PE X (.Call (.Name x p) (e :: es) [] pos) (tCall sp [] E0 t) := by
  obtain ⟨f, fd, F, h1, h2, h3⟩ := D.ex
  exact pe_call F hr hg h1 h2 h3 .nil pass0 ha hdb he hpl
theorem pe_cm {pl : Sem Bool} (D : Cm X.prog X.w X.K X.mg X.base k C m ps sp) (hr : Room k X.A) (ho : PE X o ta) (ha : PA X (e :: es) t)
    (hst : starEach (e :: es) X.env = (false, eval e X.env) :: starEach es X.env := by rfl) (hpl : (backTo pos (starEach es X.env)).any (·.1) = false := by rfl)
    (ht : eval (.Call (.Attribute o m apos) (e :: es) [] pos) X.env = (do
        let ov ← eval o X.env
        standAt apos.atName
        let (f, first) ← holding [ov] (getMethod ov m pl)
        callWith pos f first (backTo pos (starEach (e :: es) X.env)) (backToKw pos (keywordEach [] X.env))) := by rfl) : PE X (.Call (.Attribute o m apos) (e :: es) [] pos) (tMeth C m sp [] E0 ta t) := by
  obtain ⟨f, fd, F, h1, h2⟩ := D.ex
  exact pe_meth ho D.cls h1 F hr h2 .nil pass0 ha hst hpl ht
theorem pe_cmk (D : Ck X.prog X.w X.K X.mg X.base k C x ps sp) (hr : Room (k + 1) X.A) (ha : PA X (e :: es) t) (hg : Gl X x := by rfl) (hdb : (x == ("__debug__" : Str)) = false := by decide)
    (he : starEach (e :: es) X.env = (false, eval e X.env) :: starEach es X.env := by rfl) (hpl : (backTo pos (starEach es X.env)).any (·.1) = false := by rfl) : PE X (.Call (.Name x p) (e :: es) [] pos) (tMake C sp [] E0 t) := by
  obtain ⟨f, fd, F, h1, h2, h3⟩ := D.ex
  exact pe_make h1 F hr hg h2 h3 .nil pass0 ha hdb he hpl
/-- a name as a target -/
theorem pgn (i : Nat) {x : Str} {pos : Pos} (hN : X.N.Nodup) (hi : X.N[i]? = some x := by rfl) (hx : Loc X.env.scope x := by first | exact Or.inl rfl | exact Or.inr rfl)
    (hf : X.fn x = true ∨ X.env.scope.names.lookup x = some .local := by first | exact .inl rfl | exact .inr rfl) : PG X (.Name x pos) (gName i) := pg_name hN hi hx hf
end
theorem hu64 {A : Around} {k : Nat} (hr : Room k A) : A.units + 64 < cLine := hr.units
theorem hu65 {A : Around} {k : Nat} (hr : Room k A) : A.units + 65 < cLine := by have := hr.un; omega
end KK
/-! K12F: the data of the law: rows, tables, readers. -/
namespace KK
open PySem PySem.Spec PyProof.Rows L2
abbrev dRow (l : List Nat) : PyData := .tuple (l.map dI)
abbrev dLst (l : List Nat) : PyData := .list (l.map dI)
abbrev dMat (m : List (List Nat)) : PyData := .tuple (m.map dRow)
abbrev dPr (p : Nat × Nat) : PyData := .tuple [dI p.1, dI p.2]
abbrev dPs (l : List (Nat × Nat)) : PyData := .tuple (l.map dPr)
structure Rd where
  L : List Nat
  M : List (List Nat)
  A : List (Nat × Nat)
abbrev dRd (r : Rd) : PyData := .tuple [dRow r.L, dMat r.M, dPs r.A]
def mu (M : List (List Nat)) (x y : Nat) : Nat := (M.getD x []).getD y 0
def Sq (M : List (List Nat)) : Prop := ∀ row ∈ M, row.length = M.length ∧ ∀ x ∈ row, x < M.length
theorem getD_mem {l : List Nat} {i d : Nat} (h : i < l.length) : l.getD i d ∈ l := by
  rw [List.getD_eq_getElem?_getD, List.getElem?_eq_getElem h]
  exact List.getElem_mem h
theorem getD_memR {M : List (List Nat)} {i : Nat} (h : i < M.length) : M.getD i [] ∈ M := by
  rw [List.getD_eq_getElem?_getD, List.getElem?_eq_getElem h]
  exact List.getElem_mem h
theorem row_at {α : Type} (f : Nat → α) {l : List Nat} {i : Nat} (h : i < l.length) : (l.map f)[i]? = some (f (l.getD i 0)) := by
  rw [List.getElem?_map, List.getD_eq_getElem?_getD, List.getElem?_eq_getElem h]
  rfl
theorem mat_at {α : Type} (f : List Nat → α) {M : List (List Nat)} {i : Nat} (h : i < M.length) : (M.map f)[i]? = some (f (M.getD i [])) := by
  rw [List.getElem?_map, List.getD_eq_getElem?_getD, List.getElem?_eq_getElem h]
  rfl
theorem pr_at {α : Type} (f : Nat × Nat → α) {l : List (Nat × Nat)} {i : Nat} (h : i < l.length) : (l.map f)[i]? = some (f (l.getD i (0, 0))) := by
  rw [List.getElem?_map, List.getD_eq_getElem?_getD, List.getElem?_eq_getElem h]
  rfl
theorem Sq.lt {M : List (List Nat)} (h : Sq M) {x y : Nat} (hx : x < M.length) (hy : y < M.length) : mu M x y < M.length := by
  obtain ⟨h1, h2⟩ := h _ (getD_memR hx)
  exact h2 _ (getD_mem (by omega))
section
variable {c : Option Addr} {Γ : List Sl} {ta tb tx ty : TE} {K : PySem.W.Frag}
theorem ev_row {l : List Nat} {i : Nat} (ha : EvD c Γ ta (dRow l)) (hb : EvD c Γ tb (dI i)) (h : i < l.length) : EvD c Γ (tOp (rIx K) ta tb) (dI (l.getD i 0)) := ev_ixT ha hb (row_at dI h)
theorem ev_rowL {l : List Nat} {i : Nat} (ha : EvD c Γ ta (dLst l)) (hb : EvD c Γ tb (dI i)) (h : i < l.length) : EvD c Γ (tOp (rIx K) ta tb) (dI (l.getD i 0)) := ev_ixL ha hb (row_at dI h)
theorem ev_mu {M : List (List Nat)} {x y : Nat} (ha : EvD c Γ ta (dMat M)) (hx : EvD c Γ tx (dI x)) (hy : EvD c Γ ty (dI y)) (hM : Sq M) (h1 : x < M.length) (h2 : y < M.length) :
    EvD c Γ (tOp (rIx K) (tOp (rIx K) ta tx) ty) (dI (mu M x y)) := ev_row (ev_ixT ha hx (mat_at dRow h1)) hy (by rw [(hM _ (getD_memR h1)).1]; exact h2)
theorem ev_muL {M : List (List Nat)} {x y : Nat} (ha : EvD c Γ ta (.list (M.map dLst))) (hx : EvD c Γ tx (dI x)) (hy : EvD c Γ ty (dI y)) (hM : Sq M) (h1 : x < M.length) (h2 : y < M.length) :
    EvD c Γ (tOp (rIx K) (tOp (rIx K) ta tx) ty) (dI (mu M x y)) := ev_rowL (ev_ixL ha hx (mat_at dLst h1)) hy (by rw [(hM _ (getD_memR h1)).1]; exact h2)
/-- a member of a tuple, by its place -/
theorem ev_pt {ds : List PyData} {d : PyData} (n : Nat) {i : Int} (ha : EvD c Γ ta (.tuple ds)) (hd : ds[n]? = some d := by rfl) (hi : i = (n : Int) := by rfl) : EvD c Γ (tOp (rIx K) ta (tC (.int i))) d := ev_ixT ha (ev_n n hi) hd
theorem ev_pl {ds : List PyData} {d : PyData} (n : Nat) {i : Int} (ha : EvD c Γ ta (.list ds)) (hd : ds[n]? = some d := by rfl) (hi : i = (n : Int) := by rfl) : EvD c Γ (tOp (rIx K) ta (tC (.int i))) d := ev_ixL ha (ev_n n hi) hd
end
end KK
/-! K12G: rules that the layer HandS lacks: enumerate of a tuple, a dict comprehension with tuple keys, x in a tuple of data, sorted of tuples of numbers. -/
namespace KK
open PySem PySem.Spec PyProof.Rows L2
section
variable {X : Cx}
/-! ### x in a tuple of data -/
def rInTD (K : PySem.W.Frag) : R2 := fun x y H Q => ∃ d ds, Dp K H x d ∧ Dp K H y (.tuple ds) ∧ SeqAt.shaped d = true ∧ SeqAt.shaped (.tuple ds) = true ∧ Q (.bl (ds.any fun z => PyData.eqv z d)) H
theorem op_inTD (hu : X.A.units + 65 < cLine) : OpR X (compareOp .In) (rInTD X.K) := fun pins s σ H x y v u Q I rx ry ⟨d, ds, hd, he, sd, se, q⟩ => by
  obtain ⟨as, r1⟩ := Dp.reads I _ _ _ hd rx
  obtain ⟨bs, r2⟩ := Dp.reads I _ _ _ he ry
  exact SeqAt.in_tuple_reads r2 r1 (SeqAt.canLay_of_shaped se) (SeqAt.canLay_of_shaped sd) (room_in_shaped sd hu) ⟨.bl _, H, I, rfl, q⟩

/-! ### sorted -/
abbrev encT (b : Int × List Int) : PyData := .tuple (.int b.1 :: b.2.map .int)
def srtT (bs : List (Int × List Int)) : List (Int × List Int) := bs.mergeSort (PySem.W.dataLe false encT)
def rSrt (K : PySem.W.Frag) : List V → Hp → VK → Prop := fun vs H Q => ∃ (p : Addr) (xs : List V) (bs : List (Int × List Int)) (R : V → Int × List Int → Prop), vs = [.ref p] ∧ SqL K H p xs ∧ Paired R xs bs ∧ (∀ x b, R x b → Dp K H x (encT b)) ∧
  ∀ q out, H q = none → Paired R out (srtT bs) → Q (.ref q) (upd H q (.lst out))
theorem alike_T (b b' : Int × List Int) : PySem.W.alike (encT b) (encT b') = true := by
  have h := PySem.W.alike_ints (b.1 :: b.2) (b'.1 :: b'.2)
  unfold encT
  rw [PySem.W.alike]
  exact h
theorem depth_T (b : Int × List Int) : (encT b).depth = 1 := by
  have h := PySem.W.depth_ints (b.1 :: b.2)
  unfold encT
  rw [PyData.depth]
  rw [List.map_cons] at h
  rw [h]
theorem back_T {R : V → Int × List Int → Prop} : ∀ {out : List Value} {bs : List (Int × List Int)}, PySem.W.EachIs (fun v b => ∃ x, RelV x v ∧ R x b) out bs → ∃ xs, Vals xs out ∧ Paired R xs bs
  | _, _, .nil => ⟨[], .nil, .nil⟩
  | _, _, .cons ⟨x, r, h⟩ t => by
    obtain ⟨xs, h1, h2⟩ := back_T t
    exact ⟨x :: xs, .cons r h1, .cons h h2⟩
theorem fore_T {R : V → Int × List Int → Prop} : ∀ {xs : List V} {us : List Value} {bs : List (Int × List Int)}, Vals xs us → Paired R xs bs → PySem.W.EachIs (fun v b => ∃ x, RelV x v ∧ R x b) us bs
  | _, _, _, .nil, .nil => .nil
  | _, _, _, .cons r t, .cons h s => .cons ⟨_, r, h⟩ (fore_T t s)
theorem reads_T {pins : List (Addr × Obj)} {s : Shared} {σ : L2.St} {H : Hp} {R : V → Int × List Int → Prop} (I : Inv X pins σ H s) (hr : ∀ x b, R x b → Dp X.K H x (encT b)) : ∀ {us : List Value} {bs : List (Int × List Int)},
    PySem.W.EachIs (fun v b => ∃ x, RelV x v ∧ R x b) us bs → PySem.W.EachIs (fun v b => ∃ as, Reads s.heap v (encT b) as) us bs
  | _, _, .nil => .nil
  | _, _, .cons ⟨x, r, h⟩ t => .cons (Dp.reads I _ _ _ (hr _ _ h) r) (reads_T I hr t)
theorem paired_len {α β : Type} {R : α → β → Prop} : ∀ {l : List α} {m : List β}, Paired R l m → l.length = m.length
  | _, _, .nil => rfl
  | _, _, .cons _ t => by simp [paired_len t]
theorem c_sortT (hu : X.A.units + 64 < cLine) : CallR X (.builtin "sorted") (rSrt X.K) := fun pins s σ H vs us Q I r ⟨p, xs, bs, R, ev, hs, hp, hr, q⟩ => by
  subst ev
  rw [Vals.ref1 r]
  obtain ⟨its, rv, hl, hz⟩ := I.list hs
  have e := fore_T rv hp
  refine PySem.W.sorted_data (l := p) (vs := its) (bs := bs) (enc := encT) hl.isList e (reads_T I hr e) (PySem.W.AllAlike.of alike_T) (PySem.W.Sortable.tuples fun b => ⟨.int b.1, b.2.map .int, rfl⟩) (by rw [← paired_len hp]; exact hz)
    (fun b _ => by rw [depth_T]; omega) fun out hlen hout => ?_
  obtain ⟨ys, h1, h2⟩ := back_T hout
  obtain ⟨ep, hat⟩ := PyProof.Rows.sortedAll_at s.heap its out.toArray
  have hsz : ys.length ≤ sizeLine := by
    rw [h1.length, hlen, ← paired_len hp]
    exact hz
  exact ⟨.ref _, _, I.laid (t' := s.toks) (a := s.heap.objs.size + 1) (o := .lst ys) (fun _ _ => PyProof.Rows.sortedAll_old) (Nat.le_succ _) ⟨hsz, out, ep, h1, hat⟩, rfl, q _ ys (I.hok.fresh (Nat.le_succ _)) h2⟩

/-! ### enumerate of a tuple -/
set_option maxHeartbeats 4000000 in
theorem enum_new {v : Value} {o : Obj} {G : Heap → Prop} (B : Begins v o G) :
    Meets (Builtin.«enumerate.__new__» ⟨[.type "enumerate", v], []⟩) (fun _ R s => G s.heap ∧
      R (.ok (.ret (.ref (s.heap.push o).objs.size))) { s with heap := (s.heap.push o).push { cls := .type "enumerate", data := .fields #[.none, .bool false, .ref s.heap.objs.size, rawInt 0, .none, .none] } }) :=
  .of_wp fun prog w A R s ⟨h1, h⟩ => by
    obtain ⟨hp, g, d, tk, os⟩ := s
    have hsub := sub_enumerate
    have q1 : ∀ {A' : Around} {E : Value → Shared → Prop} {Q : Value → Shared → Prop}, Q (.ref hp.objs.size) ⟨hp.push o, g, d, tk, os⟩ → wpAny (model prog w) A' (pyIter v) Q E ⟨hp, g, d, tk, os⟩ :=
      fun q => B.iter prog w _ _ _ _ h1 q
    wp_walk using q1
    refine wpAny_stack_any fun st => wpAny_pure ?_
    split
    · rename_i c _ _ _ _ _
      cases (c == Value.type "enumerate") <;> (wp_walk using q1; exact ⟨_, rfl, h⟩)
    · wp_walk using q1
      exact ⟨_, rfl, h⟩
theorem enum_tup {prog : Program} {w : World} {A : Around} {E : Value → Shared → Prop} {s : Shared} {t : Addr} {items : Array Value} {Q : Value → Shared → Prop} (ht : s.heap.IsTuple t items)
    (h : ∀ h', IsEnum h' (s.heap.objs.size + 1) s.heap.objs.size 0 .none → h'.IsTupleIter s.heap.objs.size t 0 → h'.objs.size = s.heap.objs.size + 2 → (∀ b o, s.heap.get? b = some o → h'.get? b = some o) → Q (.ref (s.heap.objs.size + 1)) { s with heap := h' }) :
    wpAny (model prog w) A (call (.type "enumerate") [.ref t]) Q E s := by
  refine callType_new F.called_enumerate (by decide) (F.typeCall_enumerate_1 _) (F.newCall_enumerate_1 _) (fun obj => F.args_object_init_2 obj _) F.entry_enumerate_new (enum_new (begins_tuple t items)) ⟨ht, ?_⟩
  generalize ho : ({ cls := .type "tuple_iterator", data := .fields #[.ref t, .int 0 0] } : Obj) = o
  have hf : o.isFreed = false := by rw [← ho]; rfl
  have hz : (s.heap.push o).objs.size = s.heap.objs.size + 1 := Heap.size_push ..
  show _ ∧ _
  rw [hz]
  generalize he0 : ({ cls := .type "enumerate", data := .fields #[.none, .bool false, .ref s.heap.objs.size, rawInt 0, .none, .none] } : Obj) = e0
  have hf0 : e0.isFreed = false := by rw [← he0]; rfl
  have he : ((s.heap.push o).push e0).get? (s.heap.objs.size + 1) = some e0 := by
    have q := Heap.get?_push_size (s.heap.push o) (o := e0) hf0
    rw [hz] at q
    exact q
  have he2 : IsEnum ((s.heap.push o).push e0) (s.heap.objs.size + 1) s.heap.objs.size 0 .none := by
    rw [← he0] at he ⊢
    exact he
  refine ⟨⟨_, he, by rw [← he0]⟩, h _ he2 ?_ (by rw [Heap.size_push, hz]) fun b u x => Heap.get?_push_of_some _ (Heap.get?_push_of_some _ x)⟩
  exact ⟨o, Heap.get?_push_of_some _ (Heap.get?_push_size _ hf), by rw [← ho], by rw [← ho]; rfl⟩
/-- the tuple at a, each item in a new pair -/
def IteT (K : PySem.W.Frag) (a : Addr) : It :=
  ⟨fun i H => ∃ (xs : List V) (x : V), SqT K H a xs ∧ xs[i]? = some x, fun i H v H' => ∃ T x, v = .ref T ∧ H T = none ∧ H' = upd H T (.tup [.int (i : Nat), x]) ∧ ∀ xs, SqT K H a xs → xs[i]? = some x, fun i H => ∃ xs : List V, SqT K H a xs ∧ xs.length = i⟩
theorem turn_enumT {P : Program} {w : World} {K : PySem.W.Frag} {elts : List Expr} {kk : Nat} {tpos : Pos} (a e it : Addr) :
    Turn P w K (.Tuple elts kk tpos) (IteT K a) [e, it] e (fun i h => (∃ old, IsEnum h e it ((i : Nat) : Int) old) ∧ h.IsTupleIter it a i ∧ e ≠ it) where
  mem := List.mem_cons_self ..
  obj := fun i h ⟨⟨old, he⟩, ⟨o, ho, hc, hd⟩, _⟩ b hb => by
    rcases List.mem_cons.mp hb with z | z
    · subst z
      exact ⟨_, he, fun v q => nomatch q⟩
    · have z : b = it := by simpa using z
      subst z
      exact ⟨o, ho, fun v q => by rw [hd] at q; cases q⟩
  keep := fun i h h' ⟨⟨old, he⟩, hi, hne⟩ k => ⟨⟨old, k e (by simp) _ he⟩, hi.at fun o q => k it (by simp) o q, hne⟩
  item := fun X hP hw hK hc i pins s σ H E I hf ⟨⟨old, he⟩, hit, hne⟩ ⟨xs, x, hq, hx⟩ => by
    subst hP hw hK
    obtain ⟨its, rv, p, hz⟩ := I.tuple hq
    obtain ⟨u, hu, ru⟩ := rv.get hx
    have hel : e < s.heap.objs.size := Heap.lt_size he
    have hil : it < s.heap.objs.size := by obtain ⟨_, q, _⟩ := hit; exact Heap.lt_size q
    have nae : e ≠ a := fun z => by
      subst z
      obtain ⟨o, ho, hcl, _⟩ := p
      have q : s.heap.get? e = some _ := he
      rw [ho] at q
      cases q
      injection hcl with q4
      exact absurd q4 (by decide)
    have nai : a ≠ it := fun z => by
      subst z
      obtain ⟨o, ho, hcl, _⟩ := p
      obtain ⟨o2, h2, h3, _⟩ := hit
      rw [ho] at h2
      cases h2
      rw [hcl] at h3
      injection h3 with q4
      exact absurd q4 (by decide)
    have hlt : i < its.toArray.size := by
      have hlen := rv.length
      have h1 : i < xs.length := (List.getElem?_eq_some_iff.mp hx).1
      simp
      omega
    refine wpAny_pyNext_enum_itemD (Draws.tuple (A := X.A.in1) (I.ok.hd hc) it a nai its.toArray) he ⟨hit, p⟩ hlt hne (by simp [hne, nae]) fun y h' tk hy ho st hT hsz hk => ?_
    have ey : y = u := by
      have h1 : its.toArray[i]? = some u := by simpa using hu
      rw [h1] at hy
      exact (Option.some.inj hy).symm
    subst ey
    refine ⟨_, rfl, wpAny_letOwnedTupleGo_enum (s := { s with heap := h', toks := tk + 1 }) ho fun h'' he' sb => ?_⟩
    have hT2 : h''.get? s.heap.objs.size = some { cls := .type "tuple", data := .seq #[.int i tk, y] } := (sb.2 _ (Nat.ne_of_gt hel)).trans hT
    have new : ObjOk X.prog X.w (upd H s.heap.objs.size (.tup [.int (i : Nat), x])) h'' s.heap.objs.size (.tup [.int (i : Nat), x]) :=
      ⟨by show 2 ≤ sizeLine; decide, [.int i tk, y], .cons ⟨_, rfl⟩ (.cons ru .nil), ⟨_, hT2, rfl, _, rfl⟩⟩
    have kk : ∀ b ob, b ∉ [e, it] → s.heap.get? b = some ob → h''.get? b = some ob := fun b ob hb q => by
      have n1 : b ≠ e := fun z => hb (by simp [z])
      have n2 : b ≠ it := fun z => hb (by simp [z])
      exact (sb.2 b n1).trans (hk b ob n1 n2 q)
    refine ⟨.ref s.heap.objs.size, _, I.turnedNew (t' := tk + 1) (ch := [e, it]) kk hf (Nat.le_refl _) new, rfl, ⟨_, x, rfl, I.hok.fresh (Nat.le_refl _), rfl, fun ys hy => by rw [I.tuple_inj hy hq]; exact hx⟩, ⟨⟨y, ?_⟩, ?_, hne⟩, fun b hb => ?_⟩
    · rw [show ((i + 1 : Nat) : Int) = (i : Int) + 1 by omega]
      exact he'
    · exact st.1.at fun o q => (sb.2 it (Ne.symm hne)).trans q
    · have hb' : b < s.heap.objs.size := by
        rcases List.mem_cons.mp hb with z | z
        · rw [z]; exact hel
        · have z : b = it := by simpa using z
          rw [z]; exact hil
      rw [upd_ne (Nat.ne_of_lt hb')]
      exact (hf b hb).1
  done := fun X hP hw hK hc i pins s σ H E I hf ⟨⟨old, he⟩, hit, hne⟩ ⟨xs, hq, hx⟩ => by
    subst hP hw hK
    obtain ⟨its, rv, p, hz⟩ := I.tuple hq
    obtain ⟨f0, f1, f2, f3, f4, f5⟩ := hf it (by simp)
    have nai : a ≠ it := fun z => by
      subst z
      obtain ⟨o, ho, hcl, _⟩ := p
      obtain ⟨o2, h2, h3, _⟩ := hit
      rw [ho] at h2
      cases h2
      rw [hcl] at h3
      injection h3 with q4
      exact absurd q4 (by decide)
    have hl := rv.length
    have e1 : i = its.toArray.size := by simp; omega
    rw [e1] at hit
    exact wpAny_pyNext_enum_endD (Draws.tuple (A := X.A.in1) (I.ok.hd hc) it a nai its.toArray) he ⟨hit, p⟩ fun h' eb => ⟨rfl, I.turned (t' := s.toks) (fun b o hb q => eb b o hb q) f0 f1 f3 f4 f5⟩
  self := fun A i s Q E ⟨⟨_, he⟩, _⟩ h => wpAny_pyIter_enum he h
def iEnumT (K : PySem.W.Frag) (ta : TA) : TI := fun σ H R => ta σ H fun vs H1 => ∃ a xs, vs = [.ref a] ∧ SqT K H1 a xs ∧ R (IteT K a) H1
theorem pi_enumT {e : Expr} {ta : TA} {p pos tpos : Pos} {elts : List Expr} {kk : Nat} (hg : Gl X "enumerate") (hm : X.mg "enumerate" = none) (ha : PA X [e] ta) (hs : starEach [e] X.env = [(false, eval e X.env)] := by rfl) :
    PI X (.Tuple elts kk tpos) (.Call (.Name "enumerate" p) [e] [] pos) (iEnumT X.K ta) := ⟨fun pins s σ H R I h => by
  refine Call_ (ld_blt I hg hm boot_enumerate (PyProof.Rows.callWith_type1 (thn (ha.run pos pins s σ H _ I h) fun us s1 ⟨vs, H1, I1, r1, a, xs, ex, hq, q⟩ => ?_) hs rfl))
  subst ex
  rw [Vals.ref1 r1]
  obtain ⟨its, rv, p', hz⟩ := I1.tuple hq
  refine enum_tup p' fun h' he hit hsz hk => wpAny_pyIter_enum he ?_
  refine ⟨s1.heap.objs.size + 1, [s1.heap.objs.size + 1, s1.heap.objs.size], _, _, H1, rfl, I1.kept (t' := s1.toks) hk, turn_enumT a (s1.heap.objs.size + 1) s1.heap.objs.size, ⟨⟨.none, he⟩, hit, Nat.succ_ne_self _⟩, fun b hb => ?_, q⟩
  have hle : s1.heap.objs.size ≤ b := by
    rcases List.mem_cons.mp hb with z | z
    · rw [z]; exact Nat.le_add_right _ _
    · have z : b = s1.heap.objs.size := by simpa using z
      rw [z]; exact Nat.le_refl _
  exact I1.fpOk hle (I1.hok.fresh hle)⟩
end
end KK
/-! K12H: {k: v for ..} where the keys are tuples. -/
namespace KK
open PySem PySem.Spec PyProof.Rows L2
section
variable {X : Cx}
/-- a store of a key that is a tuple, by a comprehension -/
theorem setT {Pn : List (Addr × Obj)} {τ : L2.St} {G : Hp} {z : Shared} {Er : Value → Shared → Prop} {D b : Addr} {kvs : List (List L2.Key × V)} {k : List L2.Key} {y : V} {r : Value} {Q : Unit → Shared → Prop} (hu : X.A.units + 1 < cLine) (J : Inv X Pn τ G z) (hD : G D = some (.dT kvs)) (hb : G b = some (.tup (k.map kV)))
    (hz : kvs.length < sizeLine) (rv : RelV y r) (go : ∀ z', Inv X Pn τ (upd G D (.dT (putK kvs k y))) z' → Q () z') : wpAny (model X.prog X.w) X.A (dictSet D (.ref b) r) Q Er z := by
  obtain ⟨q1, q2, xs, rel, dd⟩ := dt_of J.hok hD
  have l1 : xs.length ≤ sizeLine := by rw [← Paired.length rel]; exact q1
  have l2 : (putK kvs k y).length ≤ sizeLine := Nat.le_trans (length_putK kvs k y) hz
  refine wpAny_dictSet_heap (hsz := l1) (show X.A.units < cLine by omega) (key_of J.hok hb) dd fun h' ⟨o, es, ep, e1, e2, e3, e4, _, e5⟩ sb => go _ ?_
  refine d_write J (by rw [hD]; trivial) sb ⟨o, e1⟩ ⟨l2, q2, _, (rel.put k hb rv).keeps fun c ys ec => ?_, o, es, ep, e1, e2, e3, e4, e5⟩
  rw [upd_ne (ne_of ec hD (fun w => nomatch w))]
  exact ec
/-- {k: v for target in iter if ..}: D the new dict -/
def tDcT (wi : TI) (g : TG) (tt : TT) (tk tv : TE) (vs : List Nat) : TE := fun σ H Q => wi σ H fun J H1 => ∀ D, H1 D = none → ∃ W : Nat → Nat → Hp → Prop, (∃ m, W 0 m (upd H1 D (.dT []))) ∧ ∀ i m H, W i m H →
  (J.stop i H ∧ Q (.ref D) H) ∨ (J.go i H ∧ ∃ Nx : Hp → Prop, (∀ H', Nx H' → ∃ m', m' < m ∧ W (i + 1) m' H') ∧ ∀ x H', J.yld i H x H' → g x (wipe σ vs) H' fun σ2 H2 => wipe σ2 vs = wipe σ vs ∧ tt σ2 H2 fun b H3 =>
    if b = true then tk σ2 H3 fun y H4 => tv σ2 H4 fun z H5 => ∃ kvs k b', y = .ref b' ∧ H5 b' = some (.tup (k.map kV)) ∧ H5 D = some (.dT kvs) ∧ kvs.length < sizeLine ∧ Nx (upd H5 D (.dT (putK kvs k z))) else Nx H3)
theorem pe_dcT {kx vx tg iter : Expr} {ifs : List Expr} {scope : Scope} {own : List (Str × Nat)} {pos : Pos} {wi : TI} {g : TG} {tt : TT} {tk tv : TE} (hu : X.A.units + 1 < cLine) (hc : X.calm = true) (hN : X.N.Nodup) (hi : PI X tg iter wi) (ok : BlkOk X.N X.env.scope scope own)
    (hg : ∀ (z : Shared) (G : Hp) (C : Addr) (cl : List (Str × Addr)) (fp : List Addr), PG (X.blk z G scope (compEnvC scope cl C X.env) fp) tg g)
    (ht : ∀ (z : Shared) (G : Hp) (C : Addr) (cl : List (Str × Addr)) (fp : List Addr), PTs (X.blk z G scope (compEnvC scope cl C X.env) fp) ifs tt)
    (hk : ∀ (z : Shared) (G : Hp) (C : Addr) (cl : List (Str × Addr)) (fp : List Addr), PE (X.blk z G scope (compEnvC scope cl C X.env) fp) kx tk)
    (he : ∀ (z : Shared) (G : Hp) (C : Addr) (cl : List (Str × Addr)) (fp : List Addr), PE (X.blk z G scope (compEnvC scope cl C X.env) fp) vx tv) (hs : ∀ x, foldedSetIterable iter X.env x = pure x := by intro _; rfl) :
    PE X (.DictComp kx vx [⟨tg, iter, ifs, 0⟩] scope pos) (tDcT wi g tt tk tv (own.map (·.2))) := ⟨fun pins s σ H Q I h => by
  rw [arm_eval_DictComp]
  have fre : ∀ y ∈ scope.names, y.2 = .free → ∃ c, X.env.cells.lookup y.1 = some c := fun y hy e => (ok.free y hy e).elim (fun k => I.ok.has _ (.inl k)) fun k => I.ok.has _ (.inr k)
  refine wpAny_comprehension_free (use := none) rfl hs (closure_ok fre) ok.kind (fun y hy e => by rw [ok.uniq y hy, e]) (thn (hi.run pins s σ H _ I h) fun xv s1 hx => thn hx fun itv s2 ⟨it, fp, tn, J, H2, e, I2, Tr, st2, f2, q⟩ => ?_)
  subst e
  refine wpAny_newObj_type (newEnv_comp ?_)
  generalize hD : s2.heap.objs.size = D
  have nD : H2 D = none := I2.hok.fresh (Nat.le_of_eq hD)
  obtain ⟨W, ⟨m0, w0⟩, turn⟩ := q D nD
  generalize e3 : ({ s2 with heap := s2.heap.push { cls := .type "dict", data := .dict #[] } } : Shared) = s3
  generalize eH : upd H2 D (.dT []) = H3 at w0
  have hp3 : s3.heap = s2.heap.push { cls := .type "dict", data := .dict #[] } := by rw [← e3]
  have I3 : Inv X pins σ H3 s3 := by
    rw [← e3, ← eH, ← hD]
    exact I2.laid (t' := s2.toks) (fun b o z => Heap.get?_push_of_some _ z) (Nat.le_refl _) (dt_empty s2.heap I2.big)
  have f3 : ∀ b ∈ fp, FpOk X pins H3 b ∧ b < s3.heap.objs.size := fun b hb => by
    obtain ⟨o, z, _⟩ := Tr.obj _ _ st2 b hb
    have lt := Heap.lt_size z
    rw [← eH]
    exact ⟨⟨by rw [upd_ne (by rw [← hD]; exact Nat.ne_of_lt lt)]; exact (f2 b hb).1, (f2 b hb).2⟩, by rw [hp3, Heap.size_push]; exact Nat.lt_succ_of_lt lt⟩
  have st3 : tn 0 s3.heap := Tr.keep _ _ _ st2 fun b _ o z => by rw [hp3]; exact Heap.get?_push_of_some _ z
  have I4 := block_start I3 ok hN f3
  generalize ecl : cellsFrom (s3.heap.objs.size + 1) scope.names (cloFrom X.env.cells scope.names []) = cl at I4
  have pg := hg s3 H3 s3.heap.objs.size cl fp
  have pt := ht s3 H3 s3.heap.objs.size cl fp
  have pk := hk s3 H3 s3.heap.objs.size cl fp
  have pv := he s3 H3 s3.heap.objs.size cl fp
  show codeAny _ _ (.compStart (.DictComp kx vx [⟨tg, iter, ifs, 0⟩] scope pos) 0 (.ref it) (.ref D) (compEnvC scope cl s3.heap.objs.size X.env)) (compPost (model X.prog X.w) X.A X.xe none (EP X pins σ Q) (.ref D) s3.heap.objs.size) { s3 with heap := pushCells (s3.heap.push { cls := .type "dict", data := .dict #[] }) scope.names }
  generalize hce : compEnvC scope cl s3.heap.objs.size X.env = ce at I4 pg pt pk pv ⊢
  have cL : ce.locals = s3.heap.objs.size := by subst hce; rfl
  generalize e4 : ({ s3 with heap := pushCells (s3.heap.push { cls := .type "dict", data := .dict #[] }) scope.names } : Shared) = s4 at I4 ⊢
  have st4 : tn 0 s4.heap := Tr.keep _ _ _ st3 fun b _ o z => by rw [← e4]; exact pushCells_keeps _ _ _ _ (Heap.get?_push_of_some _ z)
  have fpo : ∀ {τ : L2.St} {G : Hp} {z : Shared}, Inv (X.blk s3 H3 scope ce fp) [] τ G z → (∀ b ∈ fp, G b = none) → ∀ b ∈ fp, FpOk (X.blk s3 H3 scope ce fp) [] G b := fun {τ G z} J' hn b hb =>
    ⟨hn b hb, (J'.ok.exf b hb).1, J'.ok.exfs b hb, .inl hb, fun x c e => (J'.ok.exf b hb).2 x c e, fun p hp => by simp at hp⟩
  refine codeAny_compStart_dict ?loop (Tr.self X.A 0 _ _ _ st4 ?loop)
  refine compLoop_anyD (fun n z => ∃ i G, Inv (X.blk s3 H3 scope ce fp) [] (wipe σ (own.map (·.2))) G z ∧ tn i z.heap ∧ (∀ b ∈ fp, G b = none) ∧ W i n G) ?_ m0 ⟨0, H3, I4, st4, fun b hb => (f3 b hb).1.1, w0⟩
  rintro n s5 ⟨i, H5, I5, st5, n5, w5⟩
  rcases turn i n H5 w5 with ⟨stop, qq⟩ | ⟨go, Nx, hNx, step⟩
  · refine thnF (Tr.done (X.blk s3 H3 scope ce fp) rfl rfl rfl hc i [] s5 _ H5 (fun _ _ => False) I5 (fpo I5 n5) st5 stop) fun r s6 ⟨hr, I6⟩ => ?_
    subst hr
    have I7 : Inv X pins σ H5 s6 := I3.call' (ch := fp) I6.os I6.base I6.hok I6.bare fun b hb => let z := (f3 b hb).1; ⟨z.2.2.2.1, z.2.1, z.2.2.2.2.1, z.2.2.2.2.2⟩
    have nC : H5 s3.heap.objs.size = none := by
      have z : H5 ce.locals = none := I6.free
      rwa [cL] at z
    obtain ⟨m, hn, _⟩ := I6.loc
    have hn : s6.heap.Ns ce.locals m := hn
    rw [cL] at hn
    obtain ⟨f0, f1, g2, g3, f4, f5⟩ := I3.fpOk (Nat.le_refl _) nC
    exact ⟨m, hn, fun h'' sb => ⟨.ref D, H5, I7.turned (t' := s6.toks) (fun b o hb z => (sb.2 b hb).trans z) f0 f1 g3 f4 f5, rfl, qq⟩⟩
  · refine thnF (Tr.item (X.blk s3 H3 scope ce fp) rfl rfl rfl hc i [] s5 _ H5 (fun _ _ => False) I5 (fpo I5 n5) st5 go) fun r s6 ⟨u, hr, h6⟩ => ?_
    subst hr
    refine thnF h6 fun _ s7 ⟨x, H7, I7, r7, y7, st7, n7⟩ => ?_
    refine thnF (pg.run _ s7 _ H7 x u _ (I7.pinned (fpo I7 n7) (Tr.obj _ _ st7)) r7 (step x H7 y7)) fun _ s8 ⟨σ8, H8, I8, hw8, q8⟩ => ?_
    refine thnF (pt.run _ s8 σ8 H8 _ I8 q8) fun b s9 ⟨H9, I9, q9⟩ => ?_
    have fin : ∀ {z : Shared} {G : Hp}, Inv (X.blk s3 H3 scope ce fp) ([] ++ pinsAt fp s7.heap) σ8 G z → Nx G → ∃ m, m < n ∧ ∃ i G, Inv (X.blk s3 H3 scope ce fp) [] (wipe σ (own.map (·.2))) G z ∧ tn i z.heap ∧ (∀ b ∈ fp, G b = none) ∧ W i m G := fun {z G} J' nx => by
      obtain ⟨m', hm, w'⟩ := hNx G nx
      have pin : ∀ b ∈ fp, ∀ o, s7.heap.get? b = some o → z.heap.get? b = some o ∧ G b = none := fun b hb o e =>
        have p := J'.pin (b, o) (List.mem_append_right _ (List.mem_append_right _ (mem_pinsAt hb e)))
        ⟨p.1, p.2.1⟩
      refine ⟨m', hm, i + 1, G, (J'.unpinned (pins := [])).weak (by rw [← hw8, wipe_length]) (fun j v e => ?_), Tr.keep _ _ _ st7 fun b hb o e => (pin b hb o e).1, fun b hb => ?_, w'⟩
      · rw [← hw8] at e
        exact (wipe_some e).1
      · obtain ⟨o, e, _⟩ := Tr.obj _ _ st7 b hb
        exact (pin b hb o e).2
    cases b with
    | false => exact fin I9 q9
    | true =>
      refine thnF (pk.run _ s9 σ8 H9 _ I9 q9) fun z s10 ⟨yk, H10, I10, r10, q10⟩ => ?_
      refine thnF (pv.run _ s10 σ8 H10 _ I10 q10) fun z2 s11 ⟨yv, H11, I11, r11, kvs, k, b', ek, hb', hD11, hz11, nx⟩ => ?_
      subst ek
      cases r10
      exact setT (X := X.blk s3 H3 scope ce fp) hu I11 hD11 hb' hz11 r11 fun s12 I12 => fin I12 nx⟩
end
end KK
/-! K12I: enumerate, zip, dict comprehensions, sorted: how they are evaluated. -/
namespace KK
open PySem PySem.Spec PyProof.Rows L2 RZ
section
variable {c : Option Addr} {Γ Γ2 : List Sl} {te ta tb tx tk tv : TE} {t u : TT} {K : PySem.W.Frag} {i j s : Nat} {d e : PyData} {ds es : List PyData}
theorem pair_new {F H : Hp} {T : Addr} {x y : V} {dx dy : PyData} (w : Wf c F H) (h : H T = none) (hx : Dt F x dx) (hy : Dt F y dy) : Stp c F H (upd F T (.tup [x, y])) (upd H T (.tup [x, y])) ∧ Dt (upd F T (.tup [x, y])) (.ref T) (.tuple [dx, dy]) :=
  have e := same_new (o := .tup [x, y]) (w.free h)
  ⟨Stp.new w h, .tup upd_same (.cons (Dt.up e _ _ hx) (.cons (Dt.up e _ _ hy) .nil))⟩
theorem ei_enum {α : Type} {l : List α} {dd : α → PyData} (h : EvD c Γ ta (.list (l.map dd))) : EvI c Γ (iEnum K (tCons ta tNil)) (l.zipIdx.map fun p => .tuple [dI p.2, dd p.1]) := fun F H σ w E R q => h F H σ w E _ fun v F1 H1 s1 p => by
  obtain ⟨a, xs, rfl, hl, r⟩ := Dt.lst_ex p
  refine ⟨a, xs, rfl, SqL.of (s1.w.s _ _ hl), q _ F1 H1 s1 fun F2 H2 e w2 => ?_⟩
  have hq : SqL K H2 a xs := SqL.of (w2.s _ _ (e _ _ hl))
  have hlen := r.len
  rw [List.length_map] at hlen
  refine ⟨fun i hi => ?_, ⟨xs, hq, by simp [hlen]⟩, fun i x H3 hi y => ?_⟩
  · have hi : i < xs.length := by simpa [hlen] using hi
    exact ⟨xs, xs[i], hq, List.getElem?_eq_getElem hi⟩
  · obtain ⟨T, z, rfl, hT, rfl, hx⟩ := y
    have hz := hx xs hq
    obtain ⟨d', h1, h2⟩ := (DtAll.up e _ _ r).getV hz
    rw [List.getElem?_map] at h1
    cases g : l[i]? with
    | none => rw [g] at h1; cases h1
    | some y0 =>
      rw [g] at h1
      have h1 : dd y0 = d' := by simpa using h1
      subst h1
      obtain ⟨sn, dn⟩ := pair_new (x := .int (i : Nat)) (dx := dI i) w2 hT (dt_n rfl) h2
      exact ⟨_, _, sn, by rw [List.getElem?_map, List.getElem?_zipIdx, g]; simp, dn⟩
theorem ei_enumT {α : Type} {l : List α} {dd : α → PyData} (h : EvD c Γ ta (.tuple (l.map dd))) : EvI c Γ (iEnumT K (tCons ta tNil)) (l.zipIdx.map fun p => .tuple [dI p.2, dd p.1]) := fun F H σ w E R q => h F H σ w E _ fun v F1 H1 s1 p => by
  obtain ⟨a, xs, rfl, hl, r⟩ := Dt.tup_ex p
  refine ⟨a, xs, rfl, SqT.of (s1.w.s _ _ hl), q _ F1 H1 s1 fun F2 H2 e w2 => ?_⟩
  have hq : SqT K H2 a xs := SqT.of (w2.s _ _ (e _ _ hl))
  have hlen := r.len
  rw [List.length_map] at hlen
  refine ⟨fun i hi => ?_, ⟨xs, hq, by simp [hlen]⟩, fun i x H3 hi y => ?_⟩
  · have hi : i < xs.length := by simpa [hlen] using hi
    exact ⟨xs, xs[i], hq, List.getElem?_eq_getElem hi⟩
  · obtain ⟨T, z, rfl, hT, rfl, hx⟩ := y
    have hz := hx xs hq
    obtain ⟨d', h1, h2⟩ := (DtAll.up e _ _ r).getV hz
    rw [List.getElem?_map] at h1
    cases g : l[i]? with
    | none => rw [g] at h1; cases h1
    | some y0 =>
      rw [g] at h1
      have h1 : dd y0 = d' := by simpa using h1
      subst h1
      obtain ⟨sn, dn⟩ := pair_new (x := .int (i : Nat)) (dx := dI i) w2 hT (dt_n rfl) h2
      exact ⟨_, _, sn, by rw [List.getElem?_map, List.getElem?_zipIdx, g]; simp, dn⟩
theorem ei_zipT {α β : Type} {l : List α} {m : List β} {da : α → PyData} {db : β → PyData} (ha : EvD c Γ ta (.tuple (l.map da))) (hb : EvD c Γ tb (.tuple (m.map db))) :
    EvI c Γ (iZipA K (tCons ta (tCons tb tNil))) ((l.zip m).map fun p => .tuple [da p.1, db p.2]) := fun F H σ w E R q => ha F H σ w E _ fun v F1 H1 s1 p1 => hb F1 H1 σ s1.w (E.step s1) _ fun v' F2 H2 s2 p2 => by
  obtain ⟨a, xs, rfl, hl, r⟩ := Dt.tup_ex (Dt.up s2.f _ _ p1)
  obtain ⟨b, ys, rfl, hl', r'⟩ := Dt.tup_ex p2
  refine ⟨a, b, xs, ys, rfl, .inr ⟨SqT.of (s2.w.s _ _ hl), SqT.of (s2.w.s _ _ hl'), q _ F2 H2 (s1.trans s2) fun F3 H3 e w3 => ?_⟩⟩
  have hq : SqT K H3 a xs := SqT.of (w3.s _ _ (e _ _ hl))
  have hq' : SqT K H3 b ys := SqT.of (w3.s _ _ (e _ _ hl'))
  have n1 := r.len
  have n2 := r'.len
  rw [List.length_map] at n1 n2
  refine ⟨fun i hi => ?_, ⟨xs, ys, hq, hq', by simp; omega⟩, fun i x H4 hi y => ?_⟩
  · simp only [List.length_map, List.length_zip] at hi
    have h1 : i < xs.length := by omega
    have h2 : i < ys.length := by omega
    exact ⟨xs, ys, xs[i], ys[i], hq, hq', List.getElem?_eq_getElem h1, List.getElem?_eq_getElem h2⟩
  · obtain ⟨T, z, z', rfl, hT, rfl, hx, hy⟩ := y
    have hz := hx xs hq
    have hz' := hy ys hq'
    obtain ⟨d1, h1, h2⟩ := (DtAll.up e _ _ r).getV hz
    obtain ⟨d2, h3, h4⟩ := (DtAll.up e _ _ r').getV hz'
    rw [List.getElem?_map] at h1 h3
    cases g : l[i]? with
    | none => rw [g] at h1; cases h1
    | some y0 =>
      cases g2 : m[i]? with
      | none => rw [g2] at h3; cases h3
      | some y1 =>
        rw [g] at h1
        rw [g2] at h3
        have h1 : da y0 = d1 := by simpa using h1
        have h3 : db y1 = d2 := by simpa using h3
        subst h1 h3
        obtain ⟨sn, dn⟩ := pair_new w3 hT h2 h4
        refine ⟨_, _, sn, ?_, dn⟩
        have gz : (l.zip m)[i]? = some (y0, y1) := List.getElem?_zip_eq_some.mpr ⟨g, g2⟩
        rw [List.getElem?_map, gz]
        rfl
/-! ### dict comprehensions -/
theorem ev_dcK {α : Type} {wi : TI} {g : TG} {js vs : List Nat} (l : List α) (dd : α → PyData) (kf vf : α → Nat) (hi : EvI c Γ wi (l.map dd)) (hz : l.length ≤ 50000) (hv : ∀ j ∈ js, j ∈ vs)
    (ht : ∀ x, x ∈ l → ∃ Γ2, Tg c g js (dd x) (wipeG Γ vs) Γ2 ∧ EvD c Γ2 tk (dI (kf x)) ∧ EvD c Γ2 tv (dI (vf x))) :
    Ev c Γ (tDc wi g tYes tk tv vs) (IsK (l.foldl (fun acc x => putK acc (kN (kf x)) (vN (vf x))) [])) := fun F H σ w E Q q => by
  refine hi F H σ w E _ fun J F1 H1 s1 wk => ?_
  intro D hD
  have E1 := E.step s1
  have nc : c ≠ some D := s1.w.ne hD
  refine ⟨fun i m H' => m = l.length - i ∧ i ≤ l.length ∧ ∃ F' kvs, Stp c F1 H1 F' H' ∧ F' D = none ∧ H' D = some (.dK kvs) ∧ kvs.length ≤ i ∧ kvs = (l.take i).foldl (fun acc x => putK acc (kN (kf x)) (vN (vf x))) [],
    ⟨l.length, rfl, Nat.zero_le _, F1, [], Stp.cell s1.w hD, s1.w.free hD, upd_same, Nat.le_refl _, rfl⟩, ?_⟩
  rintro i m H' ⟨rfl, hle, F', kvs, s2, nF, eD, hlen, ok⟩
  obtain ⟨wg, ws, wy⟩ := wk F' H' s2.f s2.w
  by_cases hlt : i < l.length
  · refine .inr ⟨wg i (by simpa using hlt), fun H'' => ∃ F' kvs, Stp c F1 H1 F' H'' ∧ F' D = none ∧ H'' D = some (.dK kvs) ∧ kvs.length ≤ i + 1 ∧ kvs = (l.take (i + 1)).foldl (fun acc x => putK acc (kN (kf x)) (vN (vf x))) [], fun H'' h => ⟨l.length - (i + 1), by omega, rfl, hlt, h⟩, fun x H2 y => ?_⟩
    obtain ⟨F2, d, s3, hd, hx⟩ := wy i x H2 (by simpa using hlt) y
    rw [List.getElem?_map, List.getElem?_eq_getElem hlt] at hd
    have hd : dd l[i] = d := by simpa using hd
    subst hd
    obtain ⟨Γ2, tg, t1, t2⟩ := ht l[i] (List.getElem_mem hlt)
    have E2 : Env c F2 H2 (wipe σ vs) (wipeG Γ vs) := ((E1.step s2).step s3).wipe vs
    refine tg F2 H2 _ x s3.w E2 hx _ fun σ2 E3 _ hw => ⟨by rw [hw vs hv, wipe_wipe], ?_⟩
    unfold tYes
    dsimp only
    rw [if_pos rfl]
    have nF2 : F2 D = none := s3.n D nF (by rw [eD]; simp)
    have eD2 : H2 D = some (.dK kvs) := s3.h D _ nc eD
    refine t1 F2 H2 σ2 s3.w E3 _ fun y1 F3 H3 s4 p1 => ?_
    refine t2 F3 H3 σ2 s4.w (E3.step s4) _ fun y2 F4 H4 s5 p2 => ?_
    have eD3 : H3 D = some (.dK kvs) := s4.h D _ nc eD2
    have nF3 : F3 D = none := s4.n D nF2 (by rw [eD2]; simp)
    have eD4 : H4 D = some (.dK kvs) := s5.h D _ nc eD3
    have nF4 : F4 D = none := s5.n D nF3 (by rw [eD3]; simp)
    rw [Dt.int_eq p1, Dt.int_eq p2]
    refine ⟨kvs, kN (kf l[i]), rfl, eD4, Nat.lt_of_le_of_lt (by omega : kvs.length ≤ 50000) (by decide), F4, _, (((s2.trans s3).trans s4).trans s5).put hD nF4 nc, nF4, upd_same, Nat.le_trans (length_putK _ _ _) (by omega), ?_⟩
    rw [List.take_add_one, List.getElem?_eq_getElem hlt, List.foldl_append, ← ok]
    rfl
  · have e : i = l.length := by omega
    subst e
    refine .inl ⟨by simpa using ws, ?_⟩
    rw [List.take_length] at ok
    exact q _ (upd F' D (.dK kvs)) H' (s1.trans (s2.frz hD nF eD nc)) ⟨D, rfl, by rw [upd_same, ok]⟩
theorem ev_dcT {α : Type} {wi : TI} {g : TG} {js vs : List Nat} (l : List α) (dd : α → PyData) (kf : α → List Nat) (hi : EvI c Γ wi (l.map dd)) (hz : l.length ≤ 50000) (hv : ∀ j ∈ js, j ∈ vs)
    (ht : ∀ x, x ∈ l → ∃ Γ2, Tg c g js (dd x) (wipeG Γ vs) Γ2 ∧ EvD c Γ2 tk (.tuple ((kf x).map dI)) ∧ EvD c Γ2 tv (.bool true)) :
    Ev c Γ (tDcT wi g tYes tk tv vs) (IsT (l.foldl (fun acc x => putK acc (kT (kf x)) (.bl true)) [])) := fun F H σ w E Q q => by
  refine hi F H σ w E _ fun J F1 H1 s1 wk => ?_
  intro D hD
  have E1 := E.step s1
  have nc : c ≠ some D := s1.w.ne hD
  refine ⟨fun i m H' => m = l.length - i ∧ i ≤ l.length ∧ ∃ F' kvs, Stp c F1 H1 F' H' ∧ F' D = none ∧ H' D = some (.dT kvs) ∧ kvs.length ≤ i ∧ kvs = (l.take i).foldl (fun acc x => putK acc (kT (kf x)) (.bl true)) [],
    ⟨l.length, rfl, Nat.zero_le _, F1, [], Stp.cell s1.w hD, s1.w.free hD, upd_same, Nat.le_refl _, rfl⟩, ?_⟩
  rintro i m H' ⟨rfl, hle, F', kvs, s2, nF, eD, hlen, ok⟩
  obtain ⟨wg, ws, wy⟩ := wk F' H' s2.f s2.w
  by_cases hlt : i < l.length
  · refine .inr ⟨wg i (by simpa using hlt), fun H'' => ∃ F' kvs, Stp c F1 H1 F' H'' ∧ F' D = none ∧ H'' D = some (.dT kvs) ∧ kvs.length ≤ i + 1 ∧ kvs = (l.take (i + 1)).foldl (fun acc x => putK acc (kT (kf x)) (.bl true)) [], fun H'' h => ⟨l.length - (i + 1), by omega, rfl, hlt, h⟩, fun x H2 y => ?_⟩
    obtain ⟨F2, d, s3, hd, hx⟩ := wy i x H2 (by simpa using hlt) y
    rw [List.getElem?_map, List.getElem?_eq_getElem hlt] at hd
    have hd : dd l[i] = d := by simpa using hd
    subst hd
    obtain ⟨Γ2, tg, t1, t2⟩ := ht l[i] (List.getElem_mem hlt)
    have E2 : Env c F2 H2 (wipe σ vs) (wipeG Γ vs) := ((E1.step s2).step s3).wipe vs
    refine tg F2 H2 _ x s3.w E2 hx _ fun σ2 E3 _ hw => ⟨by rw [hw vs hv, wipe_wipe], ?_⟩
    unfold tYes
    dsimp only
    rw [if_pos rfl]
    have nF2 : F2 D = none := s3.n D nF (by rw [eD]; simp)
    have eD2 : H2 D = some (.dT kvs) := s3.h D _ nc eD
    refine t1 F2 H2 σ2 s3.w E3 _ fun y1 F3 H3 s4 p1 => ?_
    refine t2 F3 H3 σ2 s4.w (E3.step s4) _ fun y2 F4 H4 s5 p2 => ?_
    have eD3 : H3 D = some (.dT kvs) := s4.h D _ nc eD2
    have nF3 : F3 D = none := s4.n D nF2 (by rw [eD2]; simp)
    have eD4 : H4 D = some (.dT kvs) := s5.h D _ nc eD3
    have nF4 : F4 D = none := s5.n D nF3 (by rw [eD3]; simp)
    obtain ⟨b, xs, rfl, hb, r⟩ := Dt.tup_ex (Dt.up s5.f _ _ p1)
    rw [Dt.bl_eq p2]
    refine ⟨kvs, kT (kf l[i]), b, rfl, by rw [← key_dt r]; exact s5.w.s _ _ hb, eD4, Nat.lt_of_le_of_lt (by omega : kvs.length ≤ 50000) (by decide), F4, _, (((s2.trans s3).trans s4).trans s5).put hD nF4 nc, nF4, upd_same, Nat.le_trans (length_putK _ _ _) (by omega), ?_⟩
    rw [List.take_add_one, List.getElem?_eq_getElem hlt, List.foldl_append, ← ok]
    rfl
  · have e : i = l.length := by omega
    subst e
    refine .inl ⟨by simpa using ws, ?_⟩
    rw [List.take_length] at ok
    exact q _ (upd F' D (.dT kvs)) H' (s1.trans (s2.frz hD nF eD nc)) ⟨D, rfl, by rw [upd_same, ok]⟩
/-! ### sorted -/
theorem dt_paired {F : Hp} {α : Type} {f : α → PyData} : ∀ {l : List α} {xs : List V}, DtAll F xs (l.map f) → Paired (fun x b => Dt F x (f b)) xs l
  | [], _, h => by cases h; exact .nil
  | a :: l, _, h => by
    cases h with
    | cons h r => exact .cons h (dt_paired r)
theorem paired_dt {F : Hp} {α : Type} {f : α → PyData} : ∀ {l : List α} {xs : List V}, Paired (fun x b => Dt F x (f b)) xs l → DtAll F xs (l.map f)
  | _, _, .nil => .nil
  | _, _, .cons h r => .cons h (paired_dt r)
theorem ev_srt {bs : List (Int × List Int)} (ha : EvD c Γ ta (.list (bs.map encT))) : EvD c Γ (tCB (rSrt K) (tCons ta tNil)) (.list ((srtT bs).map encT)) := fun F H σ w E Q q => ha F H σ w E _ fun v F1 H1 s1 p => by
  obtain ⟨a, xs, rfl, hl, r⟩ := Dt.lst_ex p
  refine ⟨a, xs, bs, fun x b => Dt F1 x (encT b), rfl, SqL.of (s1.w.s _ _ hl), dt_paired r, fun x b h => Dt.dp _ _ (Dt.up s1.w.s _ _ h), fun o out ho hp => ?_⟩
  exact q _ (upd F1 o (.lst out)) _ (s1.trans (Stp.new s1.w ho)) (.lst upd_same (DtAll.up (same_new (s1.w.free ho)) _ _ (paired_dt hp)))
theorem ev_srtC {bs : List (Int × List Int)} (hs : Γ[s]? = some (.l (bs.map encT))) : EvD c Γ (tCB (rSrt K) (tCons (tVar s) tNil)) (.list ((srtT bs).map encT)) := fun F H σ w E Q q => by
  obtain ⟨ov, e1, l, rfl, e2, e3, xs, h, r⟩ := E.ok s _ hs
  refine ⟨.ref l, e1, l, xs, bs, fun x b => Dt F x (encT b), rfl, SqL.of h, dt_paired r, fun x b h => Dt.dp _ _ (Dt.up w.s _ _ h), fun o out ho hp => ?_⟩
  exact q _ (upd F o (.lst out)) _ (Stp.new w ho) (.lst upd_same (DtAll.up (same_new (w.free ho)) _ _ (paired_dt hp)))
/-- triples and pairs of numbers -/
abbrev dT3 (p : Nat × Nat × Nat) : PyData := .tuple [dI p.1, dI p.2.1, dI p.2.2]
def f3 (p : Nat × Nat × Nat) : Int × List Int := ((p.1 : Int), [(p.2.1 : Int), (p.2.2 : Int)])
def f2 (p : Nat × Nat) : Int × List Int := ((p.1 : Int), [(p.2 : Int)])
def srt3 (l : List (Nat × Nat × Nat)) : List (Nat × Nat × Nat) := l.mergeSort fun a b => PySem.W.dataLe false encT (f3 a) (f3 b)
def srt2 (l : List (Nat × Nat)) : List (Nat × Nat) := l.mergeSort fun a b => PySem.W.dataLe false encT (f2 a) (f2 b)
theorem srt3_eq (l : List (Nat × Nat × Nat)) : (srtT (l.map f3)).map encT = (srt3 l).map dT3 := by
  have h : (srt3 l).map f3 = srtT (l.map f3) := PySem.W.sort_maps f3 fun a _ b _ => rfl
  rw [← h, List.map_map]
  rfl
theorem srt2_eq (l : List (Nat × Nat)) : (srtT (l.map f2)).map encT = (srt2 l).map dPr := by
  have h : (srt2 l).map f2 = srtT (l.map f2) := PySem.W.sort_maps f2 fun a _ b _ => rfl
  rw [← h, List.map_map]
  rfl
theorem ev_srt3 {l : List (Nat × Nat × Nat)} (hs : Γ[s]? = some (.l (l.map dT3))) : EvD c Γ (tCB (rSrt K) (tCons (tVar s) tNil)) (.list ((srt3 l).map dT3)) := by
  have h := ev_srtC (K := K) (c := c) (Γ := Γ) (s := s) (bs := l.map f3) (by rw [hs, List.map_map]; rfl)
  rw [srt3_eq] at h
  exact h
theorem ev_srt2 {l : List (Nat × Nat)} (ha : EvD c Γ ta (.list (l.map dPr))) : EvD c Γ (tCB (rSrt K) (tCons ta tNil)) (.list ((srt2 l).map dPr)) := by
  have h := ev_srt (K := K) (c := c) (Γ := Γ) (ta := ta) (bs := l.map f2) (by rw [List.map_map]; exact ha)
  rw [srt2_eq] at h
  exact h
end
end KK
/-! K12K: the rules with the written part named, so that a comprehension's readings don't speak of its block. -/
namespace KK
open PySem PySem.Spec PyProof.Rows L2 RZ
section
variable (K : PySem.W.Frag) {X : Cx}
theorem ixK (h : X.K = K := by rfl) : IxR X (rIx K) := by subst h; exact ix_seq
theorem slK (h : X.K = K := by rfl) : SlR X (rSlL K) := by subst h; exact sl_list
theorem lenK (h : X.K = K := by rfl) : CallR X (.builtin "len") (rLn K) := by subst h; exact c_len
theorem listK (h : X.K = K := by rfl) : CallR X (.type "list") (rLs K) := by subst h; exact c_list
theorem tupleK (h : X.K = K := by rfl) : CallR X (.type "tuple") (rTu K) := by subst h; exact c_tuple
theorem sortK (hu : X.A.units + 64 < cLine) (h : X.K = K := by rfl) : CallR X (.builtin "sorted") (rSrt K) := by subst h; exact c_sortT hu
theorem inK (h : X.K = K := by rfl) : OpR X (compareOp .In) (rIn K false) := by subst h; exact op_in_seq
theorem niK (h : X.K = K := by rfl) : OpR X (compareOp .NotIn) (rIn K true) := by subst h; exact op_notIn_seq
theorem inDK (hu : X.A.units + 65 < cLine) (h : X.K = K := by rfl) : OpR X (compareOp .In) (rInD K) := by subst h; exact op_inD hu
theorem niDK (hu : X.A.units + 65 < cLine) (h : X.K = K := by rfl) : OpR X (compareOp .NotIn) (rNotInD K) := by subst h; exact op_notInD hu
theorem inTK (hu : X.A.units + 65 < cLine) (h : X.K = K := by rfl) : OpR X (compareOp .In) (rInTD K) := by subst h; exact op_inTD hu
theorem neDK (hu : X.A.units + 64 < cLine) (h : X.K = K := by rfl) : OpR X (compareOp .NotEq) (rNeD K) := by subst h; exact op_neD hu
theorem indexK (hu : X.A.units + 65 < cLine) (h : X.K = K := by rfl) : MtR X "list.index" (rIndexD K) := by subst h; exact mt_indexD hu
theorem fldK {e : Expr} {f : Str} {pos : Pos} {ta : TE} (he : PE X e ta) (hb : attributeBase e f X.env (eval e X.env) = eval e X.env) (h : X.K = K := by rfl) : PE X (.Attribute e f pos) (tFld K ta f) := by subst h; exact pe_fld he hb
theorem bmK {T id : String} {name : Str} {r : V → List V → Hp → VK → Prop} {o e : Expr} {es : List Expr} {to : TE} {t : TA} {apos cpos : Pos} (pa : PlainAttrs T) (slot : Slot T name id) (hty : typeOf (.builtin id) = pure (.type "method_descriptor")) (hm : MtR X id r) (ho : PE X o to) (ha : PA X (e :: es) t)
    (hbase : attributeBase o name X.env (eval o X.env) = eval o X.env := by rfl)
    (hfew : ((backTo cpos (starEach (e :: es) X.env)).all (fun x => !x.1) && (backToKw cpos (keywordEach [] X.env)).all (fun x => x.1.isSome) && decide ((e :: es).length + ([] : List Keyword).length + (if ([] : List Keyword).isEmpty then 0 else 1) < 30)) = true := by rfl)
    (hline : (apos.endLine == cpos.line) = true := by rfl) (hs : starEach (e :: es) X.env = (false, eval e X.env) :: starEach es X.env := by rfl) (hplain : (backTo cpos (starEach es X.env)).any (·.1) = false := by rfl) (h : X.K = K := by rfl) :
    PE X (.Call (.Attribute o name apos) (e :: es) [] cpos) (tBM K T r to t) := by subst h; exact pe_bm pa slot hty hm ho ha hbase hfew hline hs hplain
theorem ilK {tg l : Expr} {tl : TE} (hl : PE X l tl) (h : X.K = K := by rfl) : PI X tg l (iList K tl) := by subst h; exact pi_list hl
theorem itK {tg l : Expr} {tl : TE} (hl : PE X l tl) (h : X.K = K := by rfl) : PI X tg l (iTup K tl) := by subst h; exact pi_tup hl
theorem ienK {e : Expr} {ta : TA} {p pos tpos : Pos} {elts : List Expr} {kk : Nat} (hg : Gl X "enumerate") (hm : X.mg "enumerate" = none) (ha : PA X [e] ta) (hs : starEach [e] X.env = [(false, eval e X.env)] := by rfl) (h : X.K = K := by rfl) :
    PI X (.Tuple elts kk tpos) (.Call (.Name "enumerate" p) [e] [] pos) (iEnum K ta) := by subst h; exact pi_enum hg hm ha hs
theorem ietK {e : Expr} {ta : TA} {p pos tpos : Pos} {elts : List Expr} {kk : Nat} (hg : Gl X "enumerate") (hm : X.mg "enumerate" = none) (ha : PA X [e] ta) (hs : starEach [e] X.env = [(false, eval e X.env)] := by rfl) (h : X.K = K := by rfl) :
    PI X (.Tuple elts kk tpos) (.Call (.Name "enumerate" p) [e] [] pos) (iEnumT K ta) := by subst h; exact pi_enumT hg hm ha hs
theorem izK {e e2 : Expr} {ta : TA} {p pos tpos : Pos} {elts : List Expr} {kk : Nat} (hg : Gl X "zip") (hm : X.mg "zip" = none) (ha : PA X [e, e2] ta) (hs : starEach [e, e2] X.env = (false, eval e X.env) :: starEach [e2] X.env := by rfl)
    (hpl : (backTo pos (starEach [e2] X.env)).any (·.1) = false := by rfl) (h : X.K = K := by rfl) : PI X (.Tuple elts kk tpos) (.Call (.Name "zip" p) [e, e2] [] pos) (iZipA K ta) := by subst h; exact pi_zipA hg hm ha hs hpl
theorem tgK {es : List Expr} {k : Nat} {pos : Pos} {t : TGs} {n : Nat} (hc : X.calm = true) (hq : PGs X es t) (hn : (assignEach es X.env).length = n := by rfl) (hst : (assignEach es X.env).findIdx? (·.1) = none := by rfl) (h : X.K = K := by rfl) : PG X (.Tuple es k pos) (gTup K n t) := by
  subst h; exact pg_tup hc hq hn hst
theorem truK {a : Expr} {ta : TE} (ha : PE X a ta) (he : ∀ whole, isTrue a X.env whole = (do let v ← whole; standAt a.pos; holding [v] (truthy v))) (h : X.K = K := by rfl) : PT X a (fun σ H Q => ta σ H fun x H' => ∃ k, TruV K x H' k ∧ Q k H') := by
  subst h; exact pt_truth ha he
theorem sfldK {o value : Expr} {f : Str} {pos pos' : Pos} {ta tv : TE} (ha : PE X o ta) (hv : PE X value tv) (hs : swapsWith value (some (.Attribute o f pos')) pos.line X.env = pure false) (h : X.K = K := by rfl) : PS X (.Assign [.Attribute o f pos'] value pos) (sFld K ta tv f) := by
  subst h; exact ps_fld ha hv hs
end
end KK
/-! K12J: the text's statements; what the law's defs reckon, as plain functions. -/
namespace KK
open PySem PySem.Spec PyProof.Rows L2
def topS (i : Nat) : Stmt := PySem.Challenge.pw_unendtold_k12_whole_acceptors_of_readers.main.body.getD i (.Pass ⟨0, 0, 0, 0⟩)
theorem map_at {α β : Type} {f : α → β} {l : List α} {i : Nat} {d : β} (h : (l.map f)[i]? = some d) : ∃ x, l[i]? = some x ∧ f x = d := by
  rw [List.getElem?_map] at h
  cases g : l[i]? with
  | none => rw [g] at h; cases h
  | some x => rw [g] at h; exact ⟨x, rfl, by simpa using h⟩
theorem take_snoc {α : Type} {l : List α} {i : Nat} {x : α} (h : l[i]? = some x) : l.take (i + 1) = l.take i ++ [x] := by
  rw [List.take_add_one, h]
  rfl
/-- a reader's letters and table fit -/
structure Ok (L : List Nat) (M : List (List Nat)) : Prop where
  n : 0 < L.length
  n9 : L.length ≤ 4
  m : 0 < M.length
  m9 : M.length ≤ 9
  sq : Sq M
  lt : ∀ x ∈ L, x < M.length
theorem Ok.at {L : List Nat} {M : List (List Nat)} (h : Ok L M) {a : Nat} (ha : a < L.length) : L.getD a 0 < M.length := h.lt _ (getD_mem ha)
/-- the value of a word -/
def wor (L : List Nat) (M : List (List Nat)) : List Nat → Nat
  | [] => 0
  | a :: r => r.foldl (fun v b => mu M v (L.getD b 0)) (L.getD a 0)
theorem fold_lt {L : List Nat} {M : List (List Nat)} (h : Ok L M) : ∀ (r : List Nat) (v : Nat), v < M.length → (∀ b ∈ r, b < L.length) → r.foldl (fun v b => mu M v (L.getD b 0)) v < M.length
  | [], _, hv, _ => hv
  | b :: r, v, hv, hr => fold_lt h r _ (h.sq.lt hv (h.at (hr b (by simp)))) fun b hb => hr b (List.mem_cons_of_mem _ hb)
theorem wor_lt {L : List Nat} {M : List (List Nat)} (h : Ok L M) {w : List Nat} (h0 : w ≠ []) (hw : ∀ b ∈ w, b < L.length) : wor L M w < M.length := by
  cases w with
  | nil => exact absurd rfl h0
  | cons a r => exact fold_lt h r _ (h.at (hw a (by simp))) fun b hb => hw b (List.mem_cons_of_mem _ hb)
/-- a settled value, reckoned with so many turns left -/
def setl (M : List (List Nat)) (v : Nat) : Nat → Nat → Nat
  | 0, now => now
  | k + 1, now => if mu M now now = now then now else setl M v k (mu M now v)
theorem setl_lt {M : List (List Nat)} (h : Sq M) {v : Nat} (hv : v < M.length) : ∀ (k now : Nat), now < M.length → setl M v k now < M.length
  | 0, _, hn => hn
  | k + 1, now, hn => by
    unfold setl
    by_cases e : mu M now now = now
    · rw [if_pos e]; exact hn
    · rw [if_neg e]; exact setl_lt h hv k _ (h.lt hn hv)
def setv (M : List (List Nat)) (v : Nat) : Nat := setl M v (M.length + 1) v
/-- the pair of a word -/
def pairM (L : List Nat) (M : List (List Nat)) (u v : List Nat) : Nat × Nat :=
  if u.length = 0 then (setv M (wor L M v), setv M (wor L M v)) else (mu M (wor L M u) (setv M (wor L M v)), setv M (wor L M v))
abbrev dWd (u v : List Nat) : PyData := .tuple [dLst u, dLst v]
/-- members of data are equal as numbers are -/
theorem eqv_n (a b : Nat) : ((a : Int) == (b : Int)) = decide (a = b) := by
  by_cases h : a = b
  · subst h; simp
  · rw [decide_eq_false h]
    exact beq_eq_false_iff_ne.mpr (by omega)
theorem eqv_pr (p q : Nat × Nat) : PyData.eqv (dPr p) (dPr q) = decide (p = q) := by
  obtain ⟨a, b⟩ := p
  obtain ⟨a', b'⟩ := q
  have e : PyData.eqv (dPr (a, b)) (dPr (a', b')) = (((a : Int) == (a' : Int)) && (((b : Int) == (b' : Int)) && true)) := by simp only [PyData.eqv, PyData.eqvAll]
  rw [e, eqv_n, eqv_n]
  by_cases h1 : a = a' <;> by_cases h2 : b = b' <;> simp [h1, h2]
theorem any_pr (p : Nat × Nat) (l : List (Nat × Nat)) : ((l.map dPr).any fun z => PyData.eqv z (dPr p)) = decide (p ∈ l) := by
  induction l with
  | nil => simp
  | cons q l ih =>
    rw [List.map_cons, List.any_cons, ih, eqv_pr]
    by_cases h : q = p
    · subst h; simp
    · have h2 : ¬ p = q := fun z => h z.symm
      simp [h, h2]
theorem sh_pr (p : Nat × Nat) : SeqAt.shaped (dPr p) = true := by
  show (PyData.canLay0 (dPr p) && decide (PyData.depth (dPr p) ≤ 64)) = true
  simp [dPr, PyData.canLay0, PyData.canLayAll0, PyData.depth, PyData.depthAll]
theorem prs_ok (l : List (Nat × Nat)) : PyData.canLayAll0 (l.map dPr) = true ∧ PyData.depthAll (l.map dPr) ≤ 2 := by
  induction l with
  | nil => simp [PyData.canLayAll0, PyData.depthAll]
  | cons p l ih =>
    obtain ⟨h1, h2⟩ := ih
    refine ⟨?_, ?_⟩
    · rw [List.map_cons]
      simp only [PyData.canLayAll0, PyData.canLay0, h1, Bool.and_true]
    · rw [List.map_cons]
      simp only [PyData.depth, PyData.depthAll]
      omega
theorem sh_prT (l : List (Nat × Nat)) : SeqAt.shaped (dPs l) = true := by
  obtain ⟨h1, h2⟩ := prs_ok l
  show (PyData.canLay0 (dPs l) && decide (PyData.depth (dPs l) ≤ 64)) = true
  rw [Bool.and_eq_true]
  refine ⟨by simp only [PyData.canLay0]; exact h1, decide_eq_true ?_⟩
  simp only [PyData.depth]
  omega
theorem sh_prL (l : List (Nat × Nat)) : SeqAt.shaped (.list (l.map dPr)) = true := by
  obtain ⟨h1, h2⟩ := prs_ok l
  show (PyData.canLay0 (.list (l.map dPr)) && decide (PyData.depth (.list (l.map dPr)) ≤ 64)) = true
  rw [Bool.and_eq_true]
  refine ⟨by simp only [PyData.canLay0]; exact h1, decide_eq_true ?_⟩
  simp only [PyData.depth]
  omega
end KK
namespace KK
open PySem PySem.Spec PyProof.Rows L2
section
variable {c : Option Addr} {Γ : List Sl} {ta tb tx ty tz : TE} {R : Hp → V → Prop} {f : List PyData → (Hp → V → Prop) → Prop} {d1 d2 d3 d4 d5 : PyData}
theorem ev_call1 (h1 : EvD c Γ ta d1) (h : f [d1] R) : Ev c Γ (tCall (spD f) [] E0 (tCons ta tNil)) R := ev_callD (ds := [d1]) (ea_1 h1) h
theorem ev_call2 (h1 : EvD c Γ ta d1) (h2 : EvD c Γ tb d2) (h : f [d1, d2] R) : Ev c Γ (tCall (spD f) [] E0 (tCons ta (tCons tb tNil))) R := ev_callD (ds := [d1, d2]) (ea_2 h1 h2) h
theorem ev_call3 (h1 : EvD c Γ ta d1) (h2 : EvD c Γ tb d2) (h3 : EvD c Γ tx d3) (h : f [d1, d2, d3] R) : Ev c Γ (tCall (spD f) [] E0 (tCons ta (tCons tb (tCons tx tNil)))) R := ev_callD (ds := [d1, d2, d3]) (ea_3 h1 h2 h3) h
theorem ev_call5 (h1 : EvD c Γ ta d1) (h2 : EvD c Γ tb d2) (h3 : EvD c Γ tx d3) (h4 : EvD c Γ ty d4) (h5 : EvD c Γ tz d5) (h : f [d1, d2, d3, d4, d5] R) : Ev c Γ (tCall (spD f) [] E0 (tCons ta (tCons tb (tCons tx (tCons ty (tCons tz tNil)))))) R :=
  ev_callD (ds := [d1, d2, d3, d4, d5]) (ea_cons h1 (ea_cons h2 (ea_3 h3 h4 h5))) h
end
/-- acceptors, the next nodes -/
structure Ac where
  n : Nat
  st : Nat
  fs : List Nat
  steps : List (Nat × Nat × Nat)
  again : List Nat
abbrev dAc (a : Ac) : PyData := .tuple [dI a.n, dI a.st, dRow a.fs, .tuple (a.steps.map dT3), dRow a.again]
def aftM (u v : List Nat) (place : Nat) : Nat := if place + 1 = (u ++ v).length then u.length else place + 1
def nextM (a : Ac) (u v : List Nat) (nd : Nat × Nat) : List (Nat × Nat) :=
  (a.steps.filter fun t => decide (t.1 = nd.2) && decide (t.2.1 = (u ++ v).getD nd.1 0)).map fun t => (aftM u v nd.1, t.2.2)
end KK
namespace KK
open PySem PySem.Spec PyProof.Rows L2
section
variable {c : Option Addr} {Γ : List Sl} {ta tb : TE} {K : PySem.W.Frag} {d : PyData} {ds : List PyData}
theorem ev_inTD (ha : EvD c Γ ta d) (hb : EvD c Γ tb (.tuple ds)) (h1 : SeqAt.shaped d = true) (h2 : SeqAt.shaped (.tuple ds) = true) : EvD c Γ (tOp (rInTD K) ta tb) (.bool (ds.any fun z => PyData.eqv z d)) := by
  refine ev_op ha hb fun F H v u w p1 p2 Q q => ?_
  exact ⟨d, ds, Dt.dp _ _ (Dt.up w.s _ _ p1), Dt.dp _ _ (Dt.up w.s _ _ p2), h1, h2, q _ F H (Stp.refl w) (.bl _)⟩
end
end KK
namespace KK
open PySem PySem.Spec PyProof.Rows L2
section
variable {P : Program} {w : World} {K : PySem.W.Frag} {mg : Str → Option Value} {base : Heap}
abbrev sis_linked : Stmt := topS 2
abbrev nis_linked : List Str := ["reader", "first", "second", "mul"]
theorem scis_linked : FnScope nis_linked ["reader", "first", "second"] (defScope sis_linked) := ⟨rfl, rfl, rfl, by decide +kernel, rfl, by decide +kernel, by decide +kernel⟩
/-! ### is_linked -/
def fs_is_linked : List PyData → (Hp → V → Prop) → Prop := fun ds R => ∃ a b M s f, ds = [.tuple [a, dMat M, b], dI s, dI f] ∧ Sq M ∧ s < M.length ∧ f < M.length ∧ R = IsD (.bool (decide (mu M s f = s) && decide (mu M f f = f)))
theorem ok_is_linked {f : Addr} {fd : FuncData} (Fn : Fun K "is_linked" "is_linked" sis_linked f fd) (T : Bt mg) : FnOk P w K mg base CX0 1 f fd ["reader", "first", "second"] (spD fs_is_linked) := by
  refine fn_d Fn scis_linked (fun ds R h => by obtain ⟨a, b, M, s, f, rfl, _⟩ := h; rfl) (fun cdv A outer s H E hr => ⟨_, (pss_cons (ps_asg (pe_ix (ixK K) (pv 0) pe_int (fun _ _ => rfl)) (pgn 3 scis_linked.nd))
(pss_one (ps_ret (pe_and (pe_cmpR op_eq (pe_ix (ixK K) (pe_ix (ixK K) (pv 3) (pv 1) (fun _ _ => rfl)) (pv 2) (fun _ _ => rfl)) (pv 1) (nomark _)) (pe_one (pe_cmpR op_eq (pe_ix (ixK K) (pe_ix (ixK K) (pv 3) (pv 2) (fun _ _ => rfl)) (pv 2) (fun _ _ => rfl)) (pv 2) (nomark _))))))), ?_⟩)
  rintro F0 H0 ds R ⟨a, b, M, s, f, rfl, hM, hs, hf, rfl⟩
  refine q_asg (ev_pt 1 (ev_var 0)) ?_
  exact sx_ret (ev_andV (ev_eq (ev_mu (ev_var 3) (ev_var 1) (ev_var 2) hM hs hf) (ev_var 1)) fun _ => ev_eq (ev_mu (ev_var 3) (ev_var 2) (ev_var 2) hM hf hf) (ev_var 2))
end
end KK
namespace KK
open PySem PySem.Spec PyProof.Rows L2
section
variable {P : Program} {w : World} {K : PySem.W.Frag} {mg : Str → Option Value} {base : Heap}
/-! ### the law: a word's value -/
abbrev sL_worth : Stmt := topS 27
abbrev nL_worth : List Str := ["_law_reader_here", "_law_row_here", "_law_now", "_law_letter"]
theorem scL_worth : FnScope nL_worth ["_law_reader_here", "_law_row_here"] (defScope sL_worth) := ⟨rfl, rfl, rfl, by decide +kernel, rfl, by decide +kernel, by decide +kernel⟩
def fs_worth : List PyData → (Hp → V → Prop) → Prop := fun ds R => ∃ L M x row, ds = [.tuple [dRow L, dMat M, x], dLst row] ∧ Ok L M ∧ row ≠ [] ∧ (∀ b ∈ row, b < L.length) ∧ R = IsD (dI (wor L M row))
theorem ok_worth {f : Addr} {fd : FuncData} (Fn : Fun K "_law_worth" "_law_worth" sL_worth f fd) (T : Bt mg) : FnOk P w K mg base CX0 1 f fd ["_law_reader_here", "_law_row_here"] (spD fs_worth) := by
  refine fn_d Fn scL_worth (fun ds R h => by obtain ⟨L, M, x, row, rfl, _⟩ := h; rfl) (fun cdv A outer s H E hr => ⟨_, (pss_cons (ps_asg (pe_ix (ixK K) (pe_ix (ixK K) (pv 0) pe_int (fun _ _ => rfl)) (pe_ix (ixK K) (pv 1) pe_int (fun _ _ => rfl)) (fun _ _ => rfl)) (pgn 2 scL_worth.nd))
(pss_cons (ps_for PassesOwn.never rfl (ilK K (pe_slice (slK K) (pv 1) (po_some pe_int) po_none)) (pgn 3 scL_worth.nd)
(pss_one (ps_asg (pe_ix (ixK K) (pe_ix (ixK K) (pe_ix (ixK K) (pv 0) pe_int (fun _ _ => rfl)) (pv 2) (fun _ _ => rfl)) (pe_ix (ixK K) (pe_ix (ixK K) (pv 0) pe_int (fun _ _ => rfl)) (pv 3) (fun _ _ => rfl)) (fun _ _ => rfl)) (pgn 2 scL_worth.nd))))
(pss_one (ps_ret (pv 2))))), ?_⟩)
  rintro F0 H0 ds R ⟨L, M, x, row, rfl, ok, h0, hw, rfl⟩
  obtain ⟨a, r, rfl⟩ : ∃ a r, row = a :: r := by cases row with | nil => exact absurd rfl h0 | cons a r => exact ⟨a, r, rfl⟩
  refine q_asg (ev_row (ev_pt 0 (ev_var 0)) (ev_pl 0 (ev_var 1)) (hw a (by simp))) ?_
  refine q_for (ds := r.map dI) (ei_l (Ev.to (ev_from (k := 1) (ev_var 1) (eo_some ev_int) eo_none) rfl)) (fun i Γ' => ∃ s, Γ' = [.d (.tuple [dRow L, dMat M, x]), .d (dLst (a :: r)), .d (dI ((r.take i).foldl (fun v b => mu M v (L.getD b 0)) (L.getD a 0))), s]) ⟨_, rfl⟩ ?_ ?_
  · rintro i d Γ' hd ⟨s, rfl⟩
    obtain ⟨b, hb, rfl⟩ := map_at hd
    have hbL : b < L.length := hw b (List.mem_cons_of_mem _ (List.mem_of_getElem? hb))
    refine ⟨_, _, tg_n, sx_one (q_asg (ev_mu (ev_pt 1 (ev_var 0)) (ev_var 2) (ev_row (ev_pt 0 (ev_var 0)) (ev_var 3) hbL) ok.sq (fold_lt ok _ _ (ok.at (hw a (by simp))) fun c hc => hw c (List.mem_cons_of_mem _ (List.mem_of_mem_take hc))) (ok.at hbL)) (sx_next ⟨.d (dI b), ?_⟩))⟩
    rw [take_snoc hb, List.foldl_append]
    rfl
  · rintro Γ' ⟨s, rfl⟩
    rw [List.length_map, List.take_length]
    exact sx_ret (ev_var 2)
end
end KK
/-! M01: what is reached, in plain Lean. -/
namespace KK
theorem nodup_le : ∀ (n : Nat) (l : List Nat), l.Nodup → (∀ x ∈ l, x < n) → l.length ≤ n
  | 0, l, _, h => by
    cases l with
    | nil => exact Nat.le_refl _
    | cons a l => exact absurd (h a (by simp)) (by omega)
  | n + 1, l, hn, h => by
    by_cases m : n ∈ l
    · have h1 := nodup_le n (l.erase n) (hn.erase n) fun x hx => by
        have q := (hn.mem_erase_iff).mp hx
        have := h x q.2
        have := q.1
        omega
      rw [List.length_erase_of_mem m] at h1
      omega
    · have h1 := nodup_le n l hn fun x hx => by
        have := h x hx
        have : x ≠ n := fun z => m (z ▸ hx)
        omega
      omega
def Vd (N st : Nat) (p : Nat × Nat) : Prop := p.1 < N ∧ p.2 < st
theorem pairs_le {N st : Nat} {l : List (Nat × Nat)} (hn : l.Nodup) (h : ∀ x ∈ l, Vd N st x) : l.length ≤ N * st := by
  have q := nodup_le (N * st) (l.map fun p => p.1 * st + p.2) ?_ ?_
  · simpa using q
  · rw [List.Nodup, List.pairwise_map]
    refine List.Pairwise.imp_of_mem ?_ hn
    intro a b ha hb ne e
    obtain ⟨a1, a2⟩ := h a ha
    obtain ⟨b1, b2⟩ := h b hb
    have hst : 0 < st := by omega
    have e1 : (a.1 * st + a.2) / st = a.1 := by rw [Nat.add_comm, Nat.add_mul_div_right _ _ hst, Nat.div_eq_of_lt a2, Nat.zero_add]
    have e2 : (b.1 * st + b.2) / st = b.1 := by rw [Nat.add_comm, Nat.add_mul_div_right _ _ hst, Nat.div_eq_of_lt b2, Nat.zero_add]
    have e3 : a.1 = b.1 := by rw [← e1, ← e2, e]
    rw [e3] at e
    exact ne (Prod.ext e3 (by omega))
  · intro x hx
    obtain ⟨p, hp, rfl⟩ := List.mem_map.mp hx
    obtain ⟨h1, h2⟩ := h p hp
    have h3 : (p.1 + 1) * st ≤ N * st := Nat.mul_le_mul_right _ h1
    rw [Nat.add_mul, Nat.one_mul] at h3
    omega
/-- one node met -/
def stepR (a : Ac) (u v : List Nat) (s : List (Nat × Nat) × List (Nat × Nat)) (nd : Nat × Nat) : List (Nat × Nat) × List (Nat × Nat) :=
  if nd ∈ s.1 then s else (s.1 ++ [nd], s.2 ++ nextM a u v nd)
def reachN (a : Ac) (u v : List Nat) : Nat → List (Nat × Nat) → List (Nat × Nat) → List (Nat × Nat)
  | 0, f, _ => f
  | k + 1, f, h => if (h.foldl (stepR a u v) (f, [])).2.length = 0 then (h.foldl (stepR a u v) (f, [])).1 else reachN a u v k (h.foldl (stepR a u v) (f, [])).1 (h.foldl (stepR a u v) (f, [])).2
def reachM (a : Ac) (u v : List Nat) (nodes : List (Nat × Nat)) : List (Nat × Nat) := reachN a u v 400 [] nodes
/-- an acceptor and a word of the sizes that the law asks -/
structure AcOk (a : Ac) (u v : List Nat) : Prop where
  st : a.st ≤ 25
  ln : (u ++ v).length ≤ 8
  v0 : v ≠ []
  sl : a.steps.length ≤ 400
  to : ∀ t ∈ a.steps, t.2.2 < a.st
  fi : ∀ q ∈ a.fs, q < a.st
theorem aft_lt {u v : List Nat} (h : v ≠ []) {i : Nat} (hi : i < (u ++ v).length) : aftM u v i < (u ++ v).length := by
  unfold aftM
  have : 0 < v.length := List.length_pos_iff.mpr h
  rw [List.length_append] at hi ⊢
  split <;> omega
theorem next_vd {a : Ac} {u v : List Nat} (h : AcOk a u v) {nd : Nat × Nat} (hn : nd.1 < (u ++ v).length) : ∀ x ∈ nextM a u v nd, Vd (u ++ v).length a.st x := fun x hx => by
  obtain ⟨t, ht, rfl⟩ := List.mem_map.mp hx
  exact ⟨aft_lt h.v0 hn, h.to t (List.mem_filter.mp ht).1⟩
theorem next_len {a : Ac} {u v : List Nat} (h : AcOk a u v) (nd : Nat × Nat) : (nextM a u v nd).length ≤ 400 := by
  unfold nextM
  rw [List.length_map]
  exact Nat.le_trans (List.length_filter_le _ _) h.sl
structure RI (a : Ac) (u v : List Nat) (s : List (Nat × Nat) × List (Nat × Nat)) : Prop where
  nd : s.1.Nodup
  vf : ∀ x ∈ s.1, Vd (u ++ v).length a.st x
  vh : ∀ x ∈ s.2, Vd (u ++ v).length a.st x
  ln : s.2.length ≤ 400 * s.1.length
theorem RI.step {a : Ac} {u v : List Nat} (h : AcOk a u v) {s : List (Nat × Nat) × List (Nat × Nat)} (r : RI a u v s) {nd : Nat × Nat} (hn : Vd (u ++ v).length a.st nd) : RI a u v (stepR a u v s nd) := by
  unfold stepR
  by_cases m : nd ∈ s.1
  · rw [if_pos m]; exact r
  · rw [if_neg m]
    refine ⟨?_, fun x hx => ?_, fun x hx => ?_, ?_⟩
    · show (s.1 ++ [nd]).Nodup
      rw [List.nodup_append]
      refine ⟨r.nd, by simp, fun x hx y hy => ?_⟩
      have : y = nd := by simpa using hy
      subst this
      exact fun z => m (z ▸ hx)
    · rcases List.mem_append.mp hx with z | z
      · exact r.vf x z
      · have : x = nd := by simpa using z
        rw [this]; exact hn
    · rcases List.mem_append.mp hx with z | z
      · exact r.vh x z
      · exact next_vd h hn.1 x z
    · show (s.2 ++ nextM a u v nd).length ≤ 400 * (s.1 ++ [nd]).length
      have h1 := next_len h nd
      have h2 := r.ln
      rw [List.length_append, List.length_append, List.length_singleton]
      omega
theorem RI.fold {a : Ac} {u v : List Nat} (h : AcOk a u v) : ∀ (l : List (Nat × Nat)) {s : List (Nat × Nat) × List (Nat × Nat)}, RI a u v s → (∀ x ∈ l, Vd (u ++ v).length a.st x) → RI a u v (l.foldl (stepR a u v) s)
  | [], _, r, _ => r
  | x :: l, _, r, hl => RI.fold h l (r.step h (hl x (by simp))) fun y hy => hl y (List.mem_cons_of_mem _ hy)
theorem RI.few {a : Ac} {u v : List Nat} (h : AcOk a u v) {s : List (Nat × Nat) × List (Nat × Nat)} (r : RI a u v s) : s.1.length ≤ 200 := by
  have h1 := pairs_le r.nd r.vf
  have h2 : (u ++ v).length * a.st ≤ 8 * 25 := Nat.mul_le_mul h.ln h.st
  omega
theorem RI.restart {a : Ac} {u v : List Nat} {f h : List (Nat × Nat)} (r : RI a u v (f, h)) : RI a u v (f, []) := ⟨r.nd, r.vf, fun _ z => by simp at z, by simp⟩
theorem reach_vd {a : Ac} {u v : List Nat} (h : AcOk a u v) : ∀ (k : Nat) (f l : List (Nat × Nat)), RI a u v (f, []) → (∀ x ∈ l, Vd (u ++ v).length a.st x) → (reachN a u v k f l).Nodup ∧ ∀ x ∈ reachN a u v k f l, Vd (u ++ v).length a.st x
  | 0, f, l, r, _ => ⟨r.nd, r.vf⟩
  | k + 1, f, l, r, hl => by
    have r2 := r.fold h l hl
    unfold reachN
    by_cases e : (l.foldl (stepR a u v) (f, [])).2.length = 0
    · rw [if_pos e]; exact ⟨r2.nd, r2.vf⟩
    · rw [if_neg e]; exact reach_vd h k _ _ (RI.restart (h := (l.foldl (stepR a u v) (f, [])).2) r2) r2.vh
def takenM (a : Ac) (u v : List Nat) : Bool := (reachM a u v (a.fs.map fun p => (0, p))).any fun nd => decide (nd.2 ∈ a.again) && decide (u.length ≤ nd.1) && decide (nd ∈ reachM a u v (nextM a u v nd))
end KK
/-! M02: the values of words in the order of their first words, as the law reckons them; tidied readers; the acceptor of the document. -/
namespace KK
open PySem PySem.Spec PyProof.Rows L2
abbrev Wd := Nat × List Nat
def ins (o : List Wd) (p : Wd) : List Wd := if p.1 ∈ o.map Prod.fst then o else o ++ [p]
def insA (o nx : List Wd) : List Wd := nx.foldl ins o
def nxt (L : List Nat) (M : List (List Nat)) (fr : List Wd) : List Wd := fr.flatMap fun p => (List.range L.length).map fun a => (mu M p.1 (L.getD a 0), p.2 ++ [a])
def runL (L : List Nat) (M : List (List Nat)) : Nat → List Wd → List Wd → List Wd
  | 0, o, _ => o
  | k + 1, o, nx => if (nxt L M ((insA o nx).drop o.length)).length = 0 then insA o nx else runL L M k (insA o nx) (nxt L M ((insA o nx).drop o.length))
def init (L : List Nat) : List Wd := (List.range L.length).map fun a => (L.getD a 0, [a])
def ordL (L : List Nat) (M : List (List Nat)) : List Wd := runL L M 400 [] (init L)
/-- a value with a word of it -/
def Gw (L : List Nat) (M : List (List Nat)) (k : Nat) (p : Wd) : Prop := p.2 ≠ [] ∧ (∀ a ∈ p.2, a < L.length) ∧ p.1 = wor L M p.2 ∧ p.2.length ≤ k
theorem Gw.mono {L : List Nat} {M : List (List Nat)} {k j : Nat} {p : Wd} (h : Gw L M k p) (e : k ≤ j) : Gw L M j p := ⟨h.1, h.2.1, h.2.2.1, Nat.le_trans h.2.2.2 e⟩
theorem Gw.lt {L : List Nat} {M : List (List Nat)} {k : Nat} {p : Wd} (ok : Ok L M) (h : Gw L M k p) : p.1 < M.length := by
  rw [h.2.2.1]
  exact wor_lt ok h.1 h.2.1
theorem wor_snoc {L : List Nat} {M : List (List Nat)} {w : List Nat} (h : w ≠ []) (a : Nat) : wor L M (w ++ [a]) = mu M (wor L M w) (L.getD a 0) := by
  cases w with
  | nil => exact absurd rfl h
  | cons b r =>
    show (r ++ [a]).foldl _ _ = _
    rw [List.foldl_append]
    rfl
structure BI (L : List Nat) (M : List (List Nat)) (k : Nat) (o : List Wd) : Prop where
  nd : (o.map Prod.fst).Nodup
  g : ∀ p ∈ o, Gw L M k p
theorem BI.few {L : List Nat} {M : List (List Nat)} {k : Nat} {o : List Wd} (ok : Ok L M) (b : BI L M k o) : o.length ≤ 9 := by
  have h := nodup_le M.length (o.map Prod.fst) b.nd fun x hx => by
    obtain ⟨p, hp, rfl⟩ := List.mem_map.mp hx
    exact (b.g p hp).lt ok
  rw [List.length_map] at h
  exact Nat.le_trans h ok.m9
theorem BI.few' {L : List Nat} {M : List (List Nat)} {k : Nat} {o : List Wd} (ok : Ok L M) (b : BI L M k o) : o.length ≤ M.length := by
  have h := nodup_le M.length (o.map Prod.fst) b.nd fun x hx => by
    obtain ⟨p, hp, rfl⟩ := List.mem_map.mp hx
    exact (b.g p hp).lt ok
  rw [List.length_map] at h
  exact h
theorem BI.mono {L : List Nat} {M : List (List Nat)} {k j : Nat} {o : List Wd} (b : BI L M k o) (e : k ≤ j) : BI L M j o := ⟨b.nd, fun p hp => (b.g p hp).mono e⟩
theorem BI.ins {L : List Nat} {M : List (List Nat)} {k : Nat} {o : List Wd} (b : BI L M k o) {p : Wd} (hp : Gw L M k p) : BI L M k (ins o p) := by
  unfold KK.ins
  by_cases m : p.1 ∈ o.map Prod.fst
  · rw [if_pos m]; exact b
  · rw [if_neg m]
    refine ⟨?_, fun q hq => ?_⟩
    · rw [List.map_append, List.nodup_append]
      refine ⟨b.nd, by simp, fun x hx y hy => ?_⟩
      have : y = p.1 := by simpa using hy
      subst this
      exact fun z => m (z ▸ hx)
    · rcases List.mem_append.mp hq with z | z
      · exact b.g q z
      · have : q = p := by simpa using z
        rw [this]; exact hp
theorem BI.insA {L : List Nat} {M : List (List Nat)} {k : Nat} : ∀ (nx : List Wd) {o : List Wd}, BI L M k o → (∀ p ∈ nx, Gw L M k p) → BI L M k (insA o nx)
  | [], _, b, _ => b
  | p :: nx, o, b, h => by
    show BI L M k (KK.insA (KK.ins o p) nx)
    exact BI.insA nx (b.ins (h p (by simp))) fun q hq => h q (List.mem_cons_of_mem _ hq)
theorem ins_pre (o : List Wd) (p : Wd) : ∃ e, ins o p = o ++ e := by
  unfold ins
  by_cases m : p.1 ∈ o.map Prod.fst
  · rw [if_pos m]; exact ⟨[], by simp⟩
  · rw [if_neg m]; exact ⟨[p], rfl⟩
theorem insA_pre : ∀ (nx o : List Wd), ∃ e, insA o nx = o ++ e
  | [], o => ⟨[], by simp [insA]⟩
  | p :: nx, o => by
    obtain ⟨e1, h1⟩ := ins_pre o p
    obtain ⟨e2, h2⟩ := insA_pre nx (ins o p)
    refine ⟨e1 ++ e2, ?_⟩
    show insA (ins o p) nx = _
    rw [h2, h1, List.append_assoc]
theorem nxt_g {L : List Nat} {M : List (List Nat)} {k : Nat} {fr : List Wd} (h : ∀ p ∈ fr, Gw L M k p) : ∀ p ∈ nxt L M fr, Gw L M (k + 1) p := fun p hp => by
  obtain ⟨q, hq, hp⟩ := List.mem_flatMap.mp hp
  obtain ⟨a, ha, rfl⟩ := List.mem_map.mp hp
  obtain ⟨h1, h2, h3, h4⟩ := h q hq
  have ha : a < L.length := by simpa using ha
  refine ⟨by simp, fun b hb => ?_, ?_, by simp; omega⟩
  · rcases List.mem_append.mp hb with z | z
    · exact h2 b z
    · have : b = a := by simpa using z
      rw [this]; exact ha
  · show mu M q.1 (L.getD a 0) = wor L M (q.2 ++ [a])
    rw [wor_snoc h1, h3]
theorem nxt_len {L : List Nat} {M : List (List Nat)} (fr : List Wd) : (nxt L M fr).length = fr.length * L.length := by
  induction fr with
  | nil => simp [nxt]
  | cons p fr ih =>
    have e : nxt L M (p :: fr) = ((List.range L.length).map fun a => (mu M p.1 (L.getD a 0), p.2 ++ [a])) ++ nxt L M fr := rfl
    rw [e, List.length_append, ih, List.length_map, List.length_range, List.length_cons, Nat.add_mul]
    omega
theorem init_g {L : List Nat} {M : List (List Nat)} : ∀ p ∈ init L, Gw L M 1 p := fun p hp => by
  obtain ⟨a, ha, rfl⟩ := List.mem_map.mp hp
  have ha : a < L.length := by simpa using ha
  exact ⟨by simp, fun b hb => by have : b = a := by simpa using hb
                                 rw [this]; exact ha, rfl, by simp⟩
/-! ### tidied -/
def ordV (L : List Nat) (M : List (List Nat)) : List Nat := (ordL L M).map Prod.fst
def num (o : List Nat) (x : Nat) : Nat := o.idxOf x
/-- the reader with the values of o alone, in their order -/
def tidyO (o : List Nat) (r : Rd) : Rd where
  L := r.L.map (num o)
  M := o.map fun x => o.map fun y => num o (mu r.M x y)
  A := srt2 ((r.A.filter fun p => decide (p.1 ∈ o) && decide (p.2 ∈ o)).map fun p => (num o p.1, num o p.2))
def tidyL (r : Rd) : Rd := tidyO (ordV r.L r.M) r
structure TdOk (r : Rd) : Prop where
  ok : Ok r.L r.M
  al : r.A.length ≤ 81
  nd : (ordV r.L r.M).Nodup
  lt : ∀ x ∈ ordV r.L r.M, x < r.M.length
  cl : ∀ x ∈ r.L, x ∈ ordV r.L r.M
  cm : ∀ x ∈ ordV r.L r.M, ∀ y ∈ ordV r.L r.M, mu r.M x y ∈ ordV r.L r.M
/-- the numbers of the members as a dict -/
def numD (o : List Nat) : List (L2.Key × V) := o.foldl (fun acc v => putK acc (kN v) (vN acc.length)) []
theorem numD_snoc {o : List Nat} (x : Nat) : numD (o ++ [x]) = putK (numD o) (kN x) (vN (numD o).length) := by
  unfold numD
  rw [List.foldl_append]
  rfl
theorem kN_inj {a b : Nat} (h : kN a = kN b) : a = b := by injection h with h; omega
theorem numD_ok : ∀ (o : List Nat), o.Nodup → (numD o).length = o.length ∧ ∀ x, valV (numD o) (kN x) = if x ∈ o then some (vN (num o x)) else none := by
  intro o
  have key : ∀ (n : Nat) (o : List Nat), o.length = n → o.Nodup → (numD o).length = o.length ∧ ∀ x, valV (numD o) (kN x) = if x ∈ o then some (vN (num o x)) else none := by
    intro n
    induction n with
    | zero =>
      intro o hl _
      have : o = [] := List.length_eq_zero_iff.mp hl
      subst this
      exact ⟨rfl, fun x => rfl⟩
    | succ n ih =>
      intro o hl hn
      have hne : o ≠ [] := fun z => by rw [z] at hl; cases hl
      obtain ⟨p, y, rfl⟩ : ∃ p y, o = p ++ [y] := ⟨o.dropLast, o.getLast hne, (List.dropLast_concat_getLast hne).symm⟩
      have hp : p.length = n := by simpa using hl
      rw [List.nodup_append] at hn
      obtain ⟨h1, h2, h3⟩ := hn
      have ny : y ∉ p := fun z => h3 y z y (by simp) rfl
      obtain ⟨i1, i2⟩ := ih p hp h1
      have e0 : valV (numD p) (kN y) = none := by rw [i2, if_neg ny]
      rw [numD_snoc]
      refine ⟨by rw [putK_new _ e0, List.length_append, i1]; simp, fun x => ?_⟩
      rw [valV_put, i2, i1]
      by_cases hx : x = y
      · subst hx
        rw [if_pos rfl, if_pos (by simp)]
        unfold num
        rw [List.idxOf_append, if_neg ny]
        simp
      · rw [if_neg fun z => hx (kN_inj z)]
        by_cases hm : x ∈ p
        · rw [if_pos hm, if_pos (by simp [hm])]
          unfold num
          rw [List.idxOf_append, if_pos hm]
        · rw [if_neg hm, if_neg (by simp [hm, hx])]
  exact key o.length o rfl
/-! ### the acceptor, as the law builds it -/
def gateM (m i : Nat) : Nat := 1 + m + i * (m + 1)
def goalM (t : Rd) (a st : Nat) : Nat := if st = 0 then t.L.getD a 0 else mu t.M (st - 1) (t.L.getD a 0)
def bI (t : Rd) (a st i : Nat) : List (Nat × Nat × Nat) :=
  (if (t.A.getD i (0, 0)).1 = goalM t a st then [(st, a, gateM t.M.length i)] else []) ++ [(gateM t.M.length i + st, a, gateM t.M.length i + 1 + goalM t a st)] ++
    (if (t.A.getD i (0, 0)).2 = goalM t a st then [(gateM t.M.length i + st, a, gateM t.M.length i)] else [])
def bS (t : Rd) (a st : Nat) : List (Nat × Nat × Nat) := (st, a, 1 + goalM t a st) :: (List.range t.A.length).flatMap (bI t a st)
def bA (t : Rd) (a : Nat) : List (Nat × Nat × Nat) := (List.range (t.M.length + 1)).flatMap (bS t a)
def bAll (t : Rd) : List (Nat × Nat × Nat) := (List.range t.L.length).flatMap (bA t)
def accM (t : Rd) (steps : List (Nat × Nat × Nat)) : Ac where
  n := t.L.length
  st := 1 + t.M.length + t.A.length * (t.M.length + 1)
  fs := [0]
  steps := srt3 steps
  again := (List.range t.A.length).map (gateM t.M.length)
def builtM (r : Rd) : Ac := accM (tidyL r) (bAll (tidyL r))
theorem flat_len {α β : Type} {f : α → List β} {n : Nat} : ∀ (l : List α), (∀ x ∈ l, (f x).length ≤ n) → (l.flatMap f).length ≤ l.length * n
  | [], _ => by simp
  | x :: l, h => by
    have h1 := h x (by simp)
    have h2 := flat_len l fun y hy => h y (List.mem_cons_of_mem _ hy)
    rw [List.flatMap_cons, List.length_append, List.length_cons, Nat.add_mul]
    omega
theorem bI_len (t : Rd) (a st i : Nat) : (bI t a st i).length ≤ 3 := by
  unfold bI
  rw [List.length_append, List.length_append]
  split <;> split <;> simp
theorem bS_len (t : Rd) (a st : Nat) (k : Nat) : ((st, a, 1 + goalM t a st) :: ((List.range t.A.length).take k).flatMap (bI t a st)).length ≤ 1 + t.A.length * 3 := by
  have h := flat_len (f := bI t a st) (n := 3) ((List.range t.A.length).take k) fun x _ => bI_len t a st x
  have h2 : ((List.range t.A.length).take k).length ≤ t.A.length := by rw [List.length_take, List.length_range]; omega
  have h3 : ((List.range t.A.length).take k).length * 3 ≤ t.A.length * 3 := Nat.mul_le_mul_right _ h2
  rw [List.length_cons]
  omega
theorem bS_len' (t : Rd) (a st : Nat) : (bS t a st).length ≤ 1 + t.A.length * 3 := by
  have h := bS_len t a st t.A.length
  rw [List.take_of_length_le (by simp)] at h
  exact h
theorem bA_len (t : Rd) (a k : Nat) : (((List.range (t.M.length + 1)).take k).flatMap (bS t a)).length ≤ (t.M.length + 1) * (1 + t.A.length * 3) := by
  have h := flat_len (f := bS t a) (n := 1 + t.A.length * 3) ((List.range (t.M.length + 1)).take k) fun x _ => bS_len' t a x
  have h2 : ((List.range (t.M.length + 1)).take k).length ≤ t.M.length + 1 := by rw [List.length_take, List.length_range]; omega
  exact Nat.le_trans h (Nat.mul_le_mul_right _ h2)
theorem bA_len' (t : Rd) (a : Nat) : (bA t a).length ≤ (t.M.length + 1) * (1 + t.A.length * 3) := by
  have h := bA_len t a (t.M.length + 1)
  rw [List.take_of_length_le (by simp)] at h
  exact h
theorem bAll_len (t : Rd) (k : Nat) : (((List.range t.L.length).take k).flatMap (bA t)).length ≤ t.L.length * ((t.M.length + 1) * (1 + t.A.length * 3)) := by
  have h := flat_len (f := bA t) (n := (t.M.length + 1) * (1 + t.A.length * 3)) ((List.range t.L.length).take k) fun x _ => bA_len' t x
  have h2 : ((List.range t.L.length).take k).length ≤ t.L.length := by rw [List.length_take, List.length_range]; omega
  exact Nat.le_trans h (Nat.mul_le_mul_right _ h2)
end KK
namespace KK
open PySem PySem.Spec PyProof.Rows L2
section
variable {P : Program} {w : World} {K : PySem.W.Frag} {mg : Str → Option Value} {base : Heap}
/-! ### the law: settled values, pairs -/
abbrev sL_settled : Stmt := topS 28
abbrev nL_settled : List Str := ["_law_mul", "_law_v", "_law_now", "_law_k"]
theorem scL_settled : FnScope nL_settled ["_law_mul", "_law_v"] (defScope sL_settled) := ⟨rfl, rfl, rfl, by decide +kernel, rfl, by decide +kernel, by decide +kernel⟩
def fs_settled : List PyData → (Hp → V → Prop) → Prop := fun ds R => ∃ M v, ds = [dMat M, dI v] ∧ Sq M ∧ M.length ≤ 9 ∧ v < M.length ∧ R = IsD (dI (setv M v))
theorem ok_settled {f : Addr} {fd : FuncData} (Fn : Fun K "_law_settled" "_law_settled" sL_settled f fd) (T : Bt mg) : FnOk P w K mg base CX0 1 f fd ["_law_mul", "_law_v"] (spD fs_settled) := by
  refine fn_d Fn scL_settled (fun ds R h => by obtain ⟨M, v, rfl, _⟩ := h; rfl) (fun cdv A outer s H E hr => ⟨_, (pss_cons (ps_asg (pv 1) (pgn 2 scL_settled.nd))
(pss_cons (ps_for PassesOwn.never rfl (pi_range1 (by rfl) T.range (pa_cons (pe_op op_add (pe_callB (lenK K) (by rfl) T.len PySem.boot_len (pa_cons (pv 0) pa_nil)) pe_int) pa_nil)) (pgn 3 scL_settled.nd)
(pss_cons (ps_if (pt_cmpR op_eq (pe_ix (ixK K) (pe_ix (ixK K) (pv 0) (pv 2) (fun _ _ => rfl)) (pv 2) (fun _ _ => rfl)) (pv 2) (nomark _))
(pss_one (ps_ret (pv 2)))
pss_nil)
(pss_one (ps_asg (pe_ix (ixK K) (pe_ix (ixK K) (pv 0) (pv 2) (fun _ _ => rfl)) (pv 1) (fun _ _ => rfl)) (pgn 2 scL_settled.nd)))))
(pss_one (ps_ret (pv 2))))), ?_⟩)
  rintro F0 H0 ds R ⟨M, v, rfl, hM, h9, hv, rfl⟩
  refine q_asg (ev_var 1) ?_
  refine q_for (ds := (List.range (M.length + 1)).map dI) (ei_r (Ev.to (ev_add (ev_lenT (ev_var 0)) (ev_n 1)) (by rw [List.length_map])) (by omega))
    (fun i Γ' => ∃ s now, Γ' = [.d (dMat M), .d (dI v), .d (dI now), s] ∧ now < M.length ∧ setl M v (M.length + 1 - i) now = setv M v) ⟨_, v, rfl, hv, rfl⟩ ?_ ?_
  · rintro i d Γ' hd ⟨s, now, rfl, hn, he⟩
    obtain ⟨b, hb, rfl⟩ := map_at hd
    have hi : i < M.length + 1 := by
      have := (List.getElem?_eq_some_iff.mp hb).1
      simpa using this
    obtain ⟨k, hk⟩ : ∃ k, M.length + 1 - i = k + 1 := ⟨M.length - i, by omega⟩
    rw [hk, setl] at he
    refine ⟨_, _, tg_n, q_ifR (et_test (ev_eq (ev_mu (ev_var 0) (ev_var 2) (ev_var 2) hM hn hn) (ev_var 2))) (fun e => ?_) fun e => ?_⟩
    · have e := of_decide_eq_true e
      rw [if_pos e] at he
      exact sx_ret (Ev.to (ev_var 2) (by rw [he]))
    · have e := of_decide_eq_false e
      rw [if_neg e] at he
      exact sx_one (q_asg (ev_mu (ev_var 0) (ev_var 2) (ev_var 1) hM hn hv) (sx_next ⟨.d (dI b), _, rfl, hM.lt hn hv, by rw [show M.length + 1 - (i + 1) = k by omega]; exact he⟩))
  · rintro Γ' ⟨s, now, rfl, hn, he⟩
    rw [List.length_map, List.length_range, Nat.sub_self, setl] at he
    exact sx_ret (Ev.to (ev_var 2) (by rw [he]))
abbrev sL_pair : Stmt := topS 29
abbrev nL_pair : List Str := ["_law_reader_here", "_law_word_here", "_law_f"]
theorem scL_pair : FnScope nL_pair ["_law_reader_here", "_law_word_here"] (defScope sL_pair) := ⟨rfl, rfl, rfl, by decide +kernel, rfl, by decide +kernel, by decide +kernel⟩
def fs_pair : List PyData → (Hp → V → Prop) → Prop := fun ds R => ∃ L M x u v, ds = [.tuple [dRow L, dMat M, x], dWd u v] ∧ Ok L M ∧ v ≠ [] ∧ (∀ b ∈ u, b < L.length) ∧ (∀ b ∈ v, b < L.length) ∧ R = IsD (dPr (pairM L M u v))
theorem ok_pair {f : Addr} {fd : FuncData} (Fn : Fun K "_law_pair" "_law_pair" sL_pair f fd) (T : Bt mg) (CL_worth : Cl P w K mg base 1 "_law_worth" ["_law_reader_here", "_law_row_here"] (spD fs_worth))
    (CL_settled : Cl P w K mg base 1 "_law_settled" ["_law_mul", "_law_v"] (spD fs_settled)) : FnOk P w K mg base CX0 2 f fd ["_law_reader_here", "_law_word_here"] (spD fs_pair) := by
  refine fn_d Fn scL_pair (fun ds R h => by obtain ⟨L, M, x, u, v, rfl, _⟩ := h; rfl) (fun cdv A outer s H E hr => ⟨_, (pss_cons (ps_asg (pe_c CL_settled (hr.mono (by decide)) (pa_cons (pe_ix (ixK K) (pv 0) pe_int (fun _ _ => rfl)) (pa_cons (pe_c CL_worth (hr.mono (by decide)) (pa_cons (pv 0) (pa_cons (pe_ix (ixK K) (pv 1) pe_int (fun _ _ => rfl)) pa_nil))) pa_nil))) (pgn 2 scL_pair.nd))
(pss_cons (ps_if (pt_cmpR op_eq (pe_callB (lenK K) (by rfl) T.len PySem.boot_len (pa_cons (pe_ix (ixK K) (pv 1) pe_int (fun _ _ => rfl)) pa_nil)) pe_int (nomark _))
(pss_one (ps_ret (pe_tup (pa_cons (pv 2) (pa_cons (pv 2) pa_nil)))))
pss_nil)
(pss_one (ps_ret (pe_tup (pa_cons (pe_ix (ixK K) (pe_ix (ixK K) (pe_ix (ixK K) (pv 0) pe_int (fun _ _ => rfl)) (pe_c CL_worth (hr.mono (by decide)) (pa_cons (pv 0) (pa_cons (pe_ix (ixK K) (pv 1) pe_int (fun _ _ => rfl)) pa_nil))) (fun _ _ => rfl)) (pv 2) (fun _ _ => rfl)) (pa_cons (pv 2) pa_nil))))))), ?_⟩)
  rintro F0 H0 ds R ⟨L, M, x, u, v, rfl, ok, h0, hu, hv, rfl⟩
  have hw := wor_lt ok h0 hv
  have hset := setl_lt ok.sq hw (M.length + 1) _ hw
  refine q_asg (ev_call2 (ev_pt 1 (ev_var 0)) (ev_call2 (ev_var 0) (ev_pt 1 (ev_var 1)) ⟨L, M, x, v, rfl, ok, h0, hv, rfl⟩) ⟨M, _, rfl, ok.sq, ok.m9, hw, rfl⟩) ?_
  refine q_ifR (et_test (ev_eq (Ev.to (ev_lenL (ev_pt 0 (ev_var 1))) (by rw [List.length_map])) (ev_n 0))) (fun e => ?_) fun e => ?_
  · have e := of_decide_eq_true e
    refine sx_ret (Ev.to (ev_t2 (ev_var 2) (ev_var 2)) ?_)
    rw [pairM, if_pos e]
  · have e := of_decide_eq_false e
    have hu0 : u ≠ [] := fun z => e (by rw [z]; rfl)
    refine sx_ret (Ev.to (ev_t2 (ev_mu (ev_pt 1 (ev_var 0)) (ev_call2 (ev_var 0) (ev_pt 0 (ev_var 1)) ⟨L, M, x, u, rfl, ok, hu0, hu, rfl⟩) (ev_var 2) ok.sq (wor_lt ok hu0 hu) hset) (ev_var 2)) ?_)
    rw [pairM, if_neg e]
    rfl
abbrev sL_accepts : Stmt := topS 30
abbrev nL_accepts : List Str := ["_law_reader_here", "_law_word_here"]
theorem scL_accepts : FnScope nL_accepts ["_law_reader_here", "_law_word_here"] (defScope sL_accepts) := ⟨rfl, rfl, rfl, by decide +kernel, rfl, by decide +kernel, by decide +kernel⟩
def fs_accepts : List PyData → (Hp → V → Prop) → Prop := fun ds R => ∃ r u v, ds = [dRd r, dWd u v] ∧ Ok r.L r.M ∧ v ≠ [] ∧ (∀ b ∈ u, b < r.L.length) ∧ (∀ b ∈ v, b < r.L.length) ∧ R = IsD (.bool (decide (pairM r.L r.M u v ∈ r.A)))
theorem ok_accepts {f : Addr} {fd : FuncData} (Fn : Fun K "_law_accepts" "_law_accepts" sL_accepts f fd) (T : Bt mg) (CL_pair : Cl P w K mg base 2 "_law_pair" ["_law_reader_here", "_law_word_here"] (spD fs_pair)) : FnOk P w K mg base CX0 3 f fd ["_law_reader_here", "_law_word_here"] (spD fs_accepts) := by
  refine fn_d Fn scL_accepts (fun ds R h => by obtain ⟨r, u, v, rfl, _⟩ := h; rfl) (fun cdv A outer s H E hr => ⟨_, (pss_one (ps_ret (pe_cmpR (inTK K (hu65 hr)) (pe_c CL_pair (hr.mono (by decide)) (pa_cons (pv 0) (pa_cons (pv 1) pa_nil))) (pe_ix (ixK K) (pv 0) pe_int (fun _ _ => rfl)) (by rfl)))), ?_⟩)
  rintro F0 H0 ds R ⟨r, u, v, rfl, ok, h0, hu, hv, rfl⟩
  refine sx_ret (Ev.to (ev_inTD (ev_call2 (ev_var 0) (ev_var 1) ⟨r.L, r.M, _, u, v, rfl, ok, h0, hu, hv, rfl⟩) (ev_pt 2 (ev_var 0)) (sh_pr _) (sh_prT _)) ?_)
  rw [any_pr]
abbrev sL_gate : Stmt := topS 36
abbrev nL_gate : List Str := ["_law_size", "_law_i"]
theorem scL_gate : FnScope nL_gate ["_law_size", "_law_i"] (defScope sL_gate) := ⟨rfl, rfl, rfl, by decide +kernel, rfl, by decide +kernel, by decide +kernel⟩
def fs_gate : List PyData → (Hp → V → Prop) → Prop := fun ds R => ∃ m i, ds = [dI m, dI i] ∧ m ≤ 1000 ∧ R = IsD (dI (gateM m i))
theorem ok_gate {f : Addr} {fd : FuncData} (Fn : Fun K "_law_gate" "_law_gate" sL_gate f fd) (T : Bt mg) : FnOk P w K mg base CX0 1 f fd ["_law_size", "_law_i"] (spD fs_gate) := by
  refine fn_d Fn scL_gate (fun ds R h => by obtain ⟨m, i, rfl, _⟩ := h; rfl) (fun cdv A outer s H E hr => ⟨_, (pss_one (ps_ret (pe_op op_add (pe_op op_add pe_int (pv 0)) (pe_op op_mul (pv 1) (pe_op op_add (pv 0) pe_int))))), ?_⟩)
  rintro F0 H0 ds R ⟨m, i, rfl, hm, rfl⟩
  exact sx_ret (ev_add (ev_add (ev_n 1) (ev_var 0)) (ev_mul (ev_var 1) (ev_add (ev_var 0) (ev_n 1)) (by omega)))
abbrev sL_next : Stmt := topS 33
abbrev nL_next : List Str := ["_law_acceptor", "_law_word_here", "_law_node", "_law_letters", "_law_after", "_law_place", "_law_p", "_law_r", "_law_a", "_law_q"]
theorem scL_next : FnScope nL_next ["_law_acceptor", "_law_word_here", "_law_node"] (defScope sL_next) := ⟨rfl, rfl, rfl, by decide +kernel, rfl, by decide +kernel, by decide +kernel⟩
def fs_next : List PyData → (Hp → V → Prop) → Prop := fun ds R => ∃ a u v nd, ds = [dAc a, dWd u v, dPr nd] ∧ (u ++ v).length ≤ 1000 ∧ nd.1 < (u ++ v).length ∧ a.steps.length ≤ 50000 ∧ R = IsD (.list ((nextM a u v nd).map dPr))
theorem ok_next {f : Addr} {fd : FuncData} (Fn : Fun K "_law_next" "_law_next" sL_next f fd) (T : Bt mg) : FnOk P w K mg base CX0 1 f fd ["_law_acceptor", "_law_word_here", "_law_node"] (spD fs_next) := by
  refine fn_d Fn scL_next (fun ds R h => by obtain ⟨a, u, v, nd, rfl, _⟩ := h; rfl) (fun cdv A outer s H E hr => ⟨_, (pss_cons (ps_asg (pv 2) (tgK K (n := 2) rfl (pgs_cons (pgn 5 scL_next.nd) (pgs_cons (pgn 6 scL_next.nd) pgs_nil))))
(pss_cons (ps_asg (pe_op op_cat (pe_ix (ixK K) (pv 1) pe_int (fun _ _ => rfl)) (pe_ix (ixK K) (pv 1) pe_int (fun _ _ => rfl))) (pgn 3 scL_next.nd))
(pss_cons (ps_asg (pe_op op_add (pv 5) pe_int) (pgn 4 scL_next.nd))
(pss_cons (ps_if (pt_cmpR op_eq (pv 4) (pe_callB (lenK K) (by rfl) T.len PySem.boot_len (pa_cons (pv 3) pa_nil)) (nomark _))
(pss_one (ps_asg (pe_callB (lenK K) (by rfl) T.len PySem.boot_len (pa_cons (pe_ix (ixK K) (pv 1) pe_int (fun _ _ => rfl)) pa_nil)) (pgn 4 scL_next.nd)))
pss_nil)
(pss_one (ps_ret (pe_lc (own := [("_law_r", 7), ("_law_a", 8), ("_law_q", 9)]) rfl scL_next.nd (itK K (pe_ix (ixK K) (pv 0) pe_int (fun _ _ => rfl))) (blkOk_by (by kernel_rfl)) (fun _ _ _ _ _ => (tgK K (n := 3) rfl (pgs_cons (pgn 7 scL_next.nd) (pgs_cons (pgn 8 scL_next.nd) (pgs_cons (pgn 9 scL_next.nd) pgs_nil))))) (fun _ _ _ _ _ => (pts_one (PW.pt (pw_and (pt_cmpR op_eq (pv 7) (pv 6) (nomark _)) (pw_and1 (pt_cmpR op_eq (pv 8) (pe_ix (ixK K) (pv 3) (pv 5) (fun _ _ => rfl)) (nomark _))))))) (fun _ _ _ _ _ => (pe_tup (pa_cons (pv 4) (pa_cons (pv 9) pa_nil))))))))))), ?_⟩)
  rintro F0 H0 ds R ⟨a, u, v, nd, rfl, hl, hp, hs, rfl⟩
  refine q_unp (ev_var 2) tg_2 ?_
  refine q_asg (Ev.to (ev_cat (ev_pt 0 (ev_var 1)) (ev_pt 1 (ev_var 1)) (by simp at hl ⊢; omega)) (e := dLst (u ++ v)) (by rw [← List.map_append])) ?_
  refine q_asg (ev_add (ev_var 5) (ev_n 1)) ?_
  refine q_if (M := fun Γ' => Γ' = [.d (dAc a), .d (dWd u v), .d (dPr nd), .d (dLst (u ++ v)), .d (dI (aftM u v nd.1)), .d (dI nd.1), .d (dI nd.2), .u, .u, .u])
    (et_test (ev_eq (ev_var 4) (Ev.to (ev_lenL (ev_var 3)) (by rw [List.length_map])))) (fun e => ?_) (fun e => ?_) ?_
  · have e := of_decide_eq_true e
    refine sx_one (q_asg (Ev.to (ev_lenL (ev_pt 0 (ev_var 1))) (e := dI (aftM u v nd.1)) ?_) (sx_next rfl))
    rw [aftM, if_pos e, List.length_map]
  · have e := of_decide_eq_false e
    refine sx_next ?_
    rw [aftM, if_neg e]
    rfl
  · rintro Γ' rfl
    refine sx_ret (Ev.to (ev_lc a.steps dT3 (fun t => (aftM u v nd.1, t.2.2)) dPr (fun t => decide (t.1 = nd.2) && decide (t.2.1 = (u ++ v).getD nd.1 0)) (ei_t (ev_pt 3 (ev_var 0))) hs (by decide) fun t ht => ⟨_, tg_3, ?_, fun _ => ?_⟩) rfl)
    · exact et_and (et_test (ev_eq (ev_var 7) (ev_var 6))) fun _ => et_test (ev_eq (ev_var 8) (ev_rowL (ev_var 3) (ev_var 5) hp))
    · exact ev_t2 (ev_var 4) (ev_var 9)
end
end KK
namespace KK
open PySem PySem.Spec PyProof.Rows L2
section
variable {P : Program} {w : World} {K : PySem.W.Frag} {mg : Str → Option Value} {base : Heap}
/-! ### the law: what is reached, what is taken -/
abbrev sL_reach : Stmt := topS 34
abbrev nL_reach : List Str := ["_law_acceptor", "_law_word_here", "_law_nodes", "_law_found_here", "_law_here", "_law_k", "_law_fresh", "_law_node"]
theorem scL_reach : FnScope nL_reach ["_law_acceptor", "_law_word_here", "_law_nodes"] (defScope sL_reach) := ⟨rfl, rfl, rfl, by decide +kernel, rfl, by decide +kernel, by decide +kernel⟩
def fs_reach : List PyData → (Hp → V → Prop) → Prop := fun ds R => ∃ a u v nds, ds = [dAc a, dWd u v, .list (nds.map dPr)] ∧ AcOk a u v ∧ (∀ x ∈ nds, Vd (u ++ v).length a.st x) ∧ R = IsD (.list ((reachM a u v nds).map dPr))
theorem ok_reach {f : Addr} {fd : FuncData} (Fn : Fun K "_law_reach" "_law_reach" sL_reach f fd) (T : Bt mg) (CL_next : Cl P w K mg base 1 "_law_next" ["_law_acceptor", "_law_word_here", "_law_node"] (spD fs_next)) : FnOk P w K mg base CX0 2 f fd ["_law_acceptor", "_law_word_here", "_law_nodes"] (spD fs_reach) := by
  refine fn_d Fn scL_reach (fun ds R h => by obtain ⟨a, u, v, nds, rfl, _⟩ := h; rfl) (fun cdv A outer s H E hr => ⟨_, (pss_cons (ps_asg (pe_lst pa_nil) (pgn 3 scL_reach.nd))
(pss_cons (ps_asg (pe_callTy (listK K) (by rfl) T.list (by decide +kernel) (pa_cons (pv 2) pa_nil)) (pgn 4 scL_reach.nd))
(pss_cons (ps_for PassesOwn.never rfl (pi_range1 (by rfl) T.range (pa_cons pe_int pa_nil)) (pgn 5 scL_reach.nd)
(pss_cons (ps_asg (pe_lst pa_nil) (pgn 6 scL_reach.nd))
(pss_cons (ps_for PassesOwn.never rfl (ilK K (pv 4)) (pgn 7 scL_reach.nd)
(pss_one (ps_if (pt_cmpR (niDK K (hu65 hr)) (pv 7) (pv 3) (by rfl))
(pss_cons (ps_expr (bmK K PySem.F.plainAttrs_list PySem.F.slot_list_append PySem.F.type_list_append mt_append (pv 3) (pa_cons (pv 7) pa_nil)))
(pss_one (ps_asg (pe_op op_cat (pv 6) (pe_c CL_next (hr.mono (by decide)) (pa_cons (pv 0) (pa_cons (pv 1) (pa_cons (pv 7) pa_nil))))) (pgn 6 scL_reach.nd))))
pss_nil)))
(pss_cons (ps_asg (pv 6) (pgn 4 scL_reach.nd))
(pss_one (ps_if (pt_cmpR op_eq (pe_callB (lenK K) (by rfl) T.len PySem.boot_len (pa_cons (pv 4) pa_nil)) pe_int (nomark _))
(pss_one (ps_ret (pv 3)))
pss_nil))))))
(pss_one (ps_ret (pv 3)))))), ?_⟩)
  rintro F0 H0 ds R ⟨a, u, v, nds, rfl, ok, hn, rfl⟩
  refine q_newL ?_
  refine q_asg (ev_lsL (ev_var 2)) ?_
  refine q_for (ds := (List.range 400).map dI) (ei_r (ev_n 400) (by omega))
    (fun i Γ' => ∃ s1 s2 s3 fo he, Γ' = [.d (dAc a), .d (dWd u v), .d (.list (nds.map dPr)), .l (fo.map dPr), .d (.list (he.map dPr)), s1, s2, s3] ∧ RI a u v (fo, []) ∧ (∀ x ∈ he, Vd (u ++ v).length a.st x) ∧ reachN a u v (400 - i) fo he = reachM a u v nds)
    ⟨_, _, _, [], nds, rfl, ⟨List.nodup_nil, fun _ z => by simp at z, fun _ z => by simp at z, by simp⟩, hn, rfl⟩ ?_ ?_
  · rintro i d Γ' hd ⟨s1, s2, s3, fo, he, rfl, ri, hv, eq⟩
    obtain ⟨b, hb, rfl⟩ := map_at hd
    have hi : i < 400 := by
      have := (List.getElem?_eq_some_iff.mp hb).1
      simpa using this
    refine ⟨_, _, tg_n, q_asg ev_l0 ?_⟩
    refine q_for (ds := he.map dPr) (ei_l (ev_var 4)) (fun j Γ' => ∃ s3, Γ' = [.d (dAc a), .d (dWd u v), .d (.list (nds.map dPr)), .l (((he.take j).foldl (stepR a u v) (fo, [])).1.map dPr), .d (.list (he.map dPr)), .d (dI b), .d (.list (((he.take j).foldl (stepR a u v) (fo, [])).2.map dPr)), s3]) ⟨_, rfl⟩ ?_ ?_
    · rintro j d Γ' hd ⟨s3, rfl⟩
      obtain ⟨nd, hnd, rfl⟩ := map_at hd
      have rj := ri.fold ok (he.take j) fun x hx => hv x (List.mem_of_mem_take hx)
      have vn := hv nd (List.mem_of_getElem? hnd)
      rw [take_snoc hnd, List.foldl_append]
      generalize (he.take j).foldl (stepR a u v) (fo, []) = st at rj ⊢
      refine ⟨_, _, tg_n, sx_if (et_test (Ev.to (ev_niC (ev_var 7) rfl (sh_pr _) (sh_prL _)) (by rw [any_pr]))) (fun e => ?_) fun e => ?_⟩
      · have e : nd ∉ st.1 := by simpa using e
        have few := rj.few ok
        have hl2 := rj.ln
        have hnx := next_len ok nd
        have es : [nd].foldl (stepR a u v) st = (st.1 ++ [nd], st.2 ++ nextM a u v nd) := by
          show stepR a u v st nd = _
          rw [stepR, if_neg e]
        rw [es]
        refine q_app rfl (ev_var 7) (by simp; omega) ?_
        refine sx_one (q_asg (ev_cat (ev_var 6) (ev_call3 (ev_var 0) (ev_var 1) (ev_var 7) ⟨a, u, v, nd, rfl, by have := ok.ln; omega, vn.1, by have := ok.sl; omega, rfl⟩) (by simp; omega)) (sx_next ⟨.d (dPr nd), ?_⟩))
        rw [List.map_append, List.map_append]
        rfl
      · have e : nd ∈ st.1 := by simpa using e
        have es : [nd].foldl (stepR a u v) st = st := by
          show stepR a u v st nd = _
          rw [stepR, if_pos e]
        rw [es]
        exact sx_next ⟨.d (dPr nd), rfl⟩
    · rintro Γ' ⟨s3, rfl⟩
      rw [List.length_map, List.take_length]
      have rj := ri.fold ok he hv
      obtain ⟨k, hk⟩ : ∃ k, 400 - i = k + 1 := ⟨399 - i, by omega⟩
      rw [hk, reachN] at eq
      generalize he.foldl (stepR a u v) (fo, []) = st at rj eq ⊢
      refine q_asg (ev_var 6) ?_
      refine sx_if (et_test (ev_eq (Ev.to (ev_lenL (ev_var 4)) (by rw [List.length_map])) (ev_n 0))) (fun e => ?_) fun e => ?_
      · have e := of_decide_eq_true e
        rw [if_pos e] at eq
        refine q_frz 3 (sx_ret (Ev.to (ev_var 3) ?_))
        rw [eq]
      · have e := of_decide_eq_false e
        rw [if_neg e] at eq
        exact sx_next ⟨_, _, _, st.1, st.2, rfl, rj.restart, rj.vh, by rw [show 400 - (i + 1) = k by omega]; exact eq⟩
  · rintro Γ' ⟨s1, s2, s3, fo, he, rfl, ri, hv, eq⟩
    rw [List.length_map, List.length_range, Nat.sub_self, reachN] at eq
    refine q_frz 3 (sx_ret (Ev.to (ev_var 3) ?_))
    rw [eq]
abbrev sL_taken : Stmt := topS 35
abbrev nL_taken : List Str := ["_law_acceptor", "_law_word_here", "_law_reach_here", "_law_node", "_law_p"]
theorem scL_taken : FnScope nL_taken ["_law_acceptor", "_law_word_here"] (defScope sL_taken) := ⟨rfl, rfl, rfl, by decide +kernel, rfl, by decide +kernel, by decide +kernel⟩
def fs_taken : List PyData → (Hp → V → Prop) → Prop := fun ds R => ∃ a u v, ds = [dAc a, dWd u v] ∧ AcOk a u v ∧ a.fs.length ≤ 50 ∧ R = IsD (.bool (takenM a u v))
theorem ok_taken {f : Addr} {fd : FuncData} (Fn : Fun K "_law_taken" "_law_taken" sL_taken f fd) (T : Bt mg) (CL_next : Cl P w K mg base 1 "_law_next" ["_law_acceptor", "_law_word_here", "_law_node"] (spD fs_next))
    (CL_reach : Cl P w K mg base 2 "_law_reach" ["_law_acceptor", "_law_word_here", "_law_nodes"] (spD fs_reach)) : FnOk P w K mg base CX0 3 f fd ["_law_acceptor", "_law_word_here"] (spD fs_taken) := by
  refine fn_d Fn scL_taken (fun ds R h => by obtain ⟨a, u, v, rfl, _⟩ := h; rfl) (fun cdv A outer s H E hr => ⟨_, (pss_cons (ps_asg (pe_c CL_reach (hr.mono (by decide)) (pa_cons (pv 0) (pa_cons (pv 1) (pa_cons (pe_lc (own := [("_law_p", 4)]) rfl scL_taken.nd (itK K (pe_ix (ixK K) (pv 0) pe_int (fun _ _ => rfl))) (blkOk_by (by kernel_rfl)) (fun _ _ _ _ _ => (pgn 4 scL_taken.nd)) (fun _ _ _ _ _ => pts_nil) (fun _ _ _ _ _ => (pe_tup (pa_cons pe_int (pa_cons (pv 4) pa_nil))))) pa_nil)))) (pgn 2 scL_taken.nd))
(pss_cons (ps_for PassesOwn.never rfl (ilK K (pv 2)) (pgn 3 scL_taken.nd)
(pss_one (ps_if (PW.pt (pw_and (pt_cmpR (inK K) (pe_ix (ixK K) (pv 3) pe_int (fun _ _ => rfl)) (pe_ix (ixK K) (pv 0) pe_int (fun _ _ => rfl)) (by rfl)) (pw_and1 (pt_cmpR op_ge (pe_ix (ixK K) (pv 3) pe_int (fun _ _ => rfl)) (pe_callB (lenK K) (by rfl) T.len PySem.boot_len (pa_cons (pe_ix (ixK K) (pv 1) pe_int (fun _ _ => rfl)) pa_nil)) (nomark _)))))
(pss_one (ps_if (pt_cmpR (inDK K (hu65 hr)) (pv 3) (pe_c CL_reach (hr.mono (by decide)) (pa_cons (pv 0) (pa_cons (pv 1) (pa_cons (pe_c CL_next (hr.mono (by decide)) (pa_cons (pv 0) (pa_cons (pv 1) (pa_cons (pv 3) pa_nil)))) pa_nil)))) (by rfl))
(pss_one (ps_ret pe_bl))
pss_nil))
pss_nil)))
(pss_one (ps_ret pe_bl)))), ?_⟩)
  rintro F0 H0 ds R ⟨a, u, v, rfl, ok, hf, rfl⟩
  have hN : 0 < (u ++ v).length := by
    have := List.length_pos_iff.mpr ok.v0
    rw [List.length_append]
    omega
  have hv0 : ∀ x ∈ a.fs.map fun p => (0, p), Vd (u ++ v).length a.st x := fun x hx => by
    obtain ⟨q, hq, rfl⟩ := List.mem_map.mp hx
    exact ⟨hN, ok.fi q hq⟩
  have ri0 : RI a u v ([], []) := ⟨List.nodup_nil, fun _ z => by simp at z, fun _ z => by simp at z, by simp⟩
  obtain ⟨rn, rv⟩ := reach_vd ok 400 [] _ ri0 hv0
  refine q_asg (ev_call3 (ev_var 0) (ev_var 1) (ev_lc0 a.fs dI (fun p => (0, p)) dPr (ei_t (ev_pt 2 (ev_var 0))) (by omega) (by decide) fun q hq => ⟨_, tg_n, ev_t2 (ev_n 0) (ev_var 4)⟩) ⟨a, u, v, _, rfl, ok, hv0, rfl⟩) ?_
  refine q_for (ds := (reachM a u v (a.fs.map fun p => (0, p))).map dPr) (ei_l (ev_var 2)) (fun j Γ' => ∃ s3, Γ' = [.d (dAc a), .d (dWd u v), .d (.list ((reachM a u v (a.fs.map fun p => (0, p))).map dPr)), s3, .u] ∧
    ((reachM a u v (a.fs.map fun p => (0, p))).take j).any (fun nd => decide (nd.2 ∈ a.again) && decide (u.length ≤ nd.1) && decide (nd ∈ reachM a u v (nextM a u v nd))) = false) ⟨_, rfl, rfl⟩ ?_ ?_
  · rintro j d Γ' hd ⟨s3, rfl, no⟩
    obtain ⟨nd, hnd, rfl⟩ := map_at hd
    have hm := List.mem_of_getElem? hnd
    have vn := rv nd hm
    have key : ∀ b : Bool, (decide (nd.2 ∈ a.again) && decide (u.length ≤ nd.1) && decide (nd ∈ reachM a u v (nextM a u v nd))) = b → ((reachM a u v (a.fs.map fun p => (0, p))).take (j + 1)).any (fun nd => decide (nd.2 ∈ a.again) && decide (u.length ≤ nd.1) && decide (nd ∈ reachM a u v (nextM a u v nd))) = b := fun b h => by
      rw [take_snoc hnd, List.any_append, no, Bool.false_or, List.any_cons, List.any_nil, Bool.or_false]
      exact h
    refine ⟨_, _, tg_n, sx_if (et_and (et_test (ev_inT (ev_pt 1 (ev_var 3)) (ev_pt 4 (ev_var 0)))) fun _ => et_test (ev_ge (ev_pt 0 (ev_var 3)) (Ev.to (ev_lenL (ev_pt 0 (ev_var 1))) (by rw [List.length_map])))) (fun e => ?_) fun e => ?_⟩
    · refine sx_if (et_test (Ev.to (ev_inD (ev_var 3) (ev_call3 (ev_var 0) (ev_var 1) (ev_call3 (ev_var 0) (ev_var 1) (ev_var 3) ⟨a, u, v, nd, rfl, by have := ok.ln; omega, vn.1, by have := ok.sl; omega, rfl⟩) ⟨a, u, v, nextM a u v nd, rfl, ok, next_vd ok vn.1, rfl⟩) (sh_pr _) (sh_prL _)) (by rw [any_pr]))) (fun e2 => ?_) fun e2 => ?_
      · refine sx_ret (Ev.to ev_bl ?_)
        have h := key true (by rw [e, e2]; rfl)
        unfold takenM
        rw [List.any_eq_true] at h
        obtain ⟨x, hx, hp⟩ := h
        rw [List.any_eq_true.mpr ⟨x, List.mem_of_mem_take hx, hp⟩]
      · exact sx_next ⟨_, rfl, key false (by rw [e, e2]; rfl)⟩
    · exact sx_next ⟨_, rfl, key false (by rw [e]; rfl)⟩
  · rintro Γ' ⟨s3, rfl, no⟩
    rw [List.length_map, List.take_length] at no
    refine sx_ret (Ev.to ev_bl ?_)
    unfold takenM
    rw [no]
end
end KK
namespace KK
open PySem PySem.Spec PyProof.Rows L2
section
variable {P : Program} {w : World} {K : PySem.W.Frag} {mg : Str → Option Value} {base : Heap}
/-! ### the law: the values of words, in their order -/
abbrev dFd (o : List Wd) : PyData := .list [dLst (o.map Prod.fst), .list ((o.map Prod.snd).map dLst)]
abbrev sL_found : Stmt := topS 31
abbrev nL_found : List Str := ["_law_reader_here", "_law_order", "_law_words", "_law_here", "_law_k", "_law_fresh", "_law_row_here", "_law_a", "_law_v"]
theorem scL_found : FnScope nL_found ["_law_reader_here"] (defScope sL_found) := ⟨rfl, rfl, rfl, by decide +kernel, rfl, by decide +kernel, by decide +kernel⟩
def fs_found : List PyData → (Hp → V → Prop) → Prop := fun ds R => ∃ L M x, ds = [.tuple [dRow L, dMat M, x]] ∧ Ok L M ∧ R = IsD (dFd (ordL L M))
theorem ok_found {f : Addr} {fd : FuncData} (Fn : Fun K "_law_found" "_law_found" sL_found f fd) (T : Bt mg) (CL_worth : Cl P w K mg base 1 "_law_worth" ["_law_reader_here", "_law_row_here"] (spD fs_worth)) : FnOk P w K mg base CX0 2 f fd ["_law_reader_here"] (spD fs_found) := by
  refine fn_d Fn scL_found (fun ds R h => by obtain ⟨L, M, x, rfl, _⟩ := h; rfl) (fun cdv A outer s H E hr => ⟨_, (pss_cons (ps_asg (pe_lst pa_nil) (pgn 1 scL_found.nd))
(pss_cons (ps_asg (pe_lst pa_nil) (pgn 2 scL_found.nd))
(pss_cons (ps_setLc (i := 3) (own := [("_law_a", 7)]) rfl scL_found.nd rfl rfl (sw_true rfl rfl rfl (by decide +kernel)) (pi_range1 (by rfl) T.range (pa_cons (pe_callB (lenK K) (by rfl) T.len PySem.boot_len (pa_cons (pe_ix (ixK K) (pv 0) pe_int (fun _ _ => rfl)) pa_nil)) pa_nil)) (blkOk_by (by kernel_rfl)) (fun _ _ _ _ _ => (pgn 7 scL_found.nd)) (fun _ _ _ _ _ => pts_nil) (fun _ _ _ _ _ => (pe_lst (pa_cons (pv 7) pa_nil))))
(pss_cons (ps_for PassesOwn.never rfl (pi_range1 (by rfl) T.range (pa_cons pe_int pa_nil)) (pgn 4 scL_found.nd)
(pss_cons (ps_asg (pe_lst pa_nil) (pgn 5 scL_found.nd))
(pss_cons (ps_for PassesOwn.never rfl (ilK K (pv 3)) (pgn 6 scL_found.nd)
(pss_cons (ps_asg (pe_c CL_worth (hr.mono (by decide)) (pa_cons (pv 0) (pa_cons (pv 6) pa_nil))) (pgn 8 scL_found.nd))
(pss_one (ps_if (pt_cmpR (niK K) (pv 8) (pv 1) (by rfl))
(pss_cons (ps_expr (bmK K PySem.F.plainAttrs_list PySem.F.slot_list_append PySem.F.type_list_append mt_append (pv 1) (pa_cons (pv 8) pa_nil)))
(pss_cons (ps_expr (bmK K PySem.F.plainAttrs_list PySem.F.slot_list_append PySem.F.type_list_append mt_append (pv 2) (pa_cons (pv 6) pa_nil)))
(pss_one (ps_expr (bmK K PySem.F.plainAttrs_list PySem.F.slot_list_append PySem.F.type_list_append mt_append (pv 5) (pa_cons (pv 6) pa_nil))))))
pss_nil))))
(pss_cons (ps_asg (pe_lst pa_nil) (pgn 3 scL_found.nd))
(pss_cons (ps_for PassesOwn.never rfl (ilK K (pv 5)) (pgn 6 scL_found.nd)
(pss_one (ps_asg (pe_op op_cat (pv 3) (pe_lc (own := [("_law_a", 7)]) rfl scL_found.nd (pi_range1 (by rfl) T.range (pa_cons (pe_callB (lenK K) (by rfl) T.len PySem.boot_len (pa_cons (pe_ix (ixK K) (pv 0) pe_int (fun _ _ => rfl)) pa_nil)) pa_nil)) (blkOk_by (by kernel_rfl)) (fun _ _ _ _ _ => (pgn 7 scL_found.nd)) (fun _ _ _ _ _ => pts_nil) (fun _ _ _ _ _ => (pe_op op_cat (pv 6) (pe_lst (pa_cons (pv 7) pa_nil)))))) (pgn 3 scL_found.nd))))
(pss_one (ps_if (pt_cmpR op_eq (pe_callB (lenK K) (by rfl) T.len PySem.boot_len (pa_cons (pv 3) pa_nil)) pe_int (nomark _))
(pss_one (ps_ret (pe_lst (pa_cons (pv 1) (pa_cons (pv 2) pa_nil)))))
pss_nil)))))))
(pss_one (ps_ret (pe_lst (pa_cons (pv 1) (pa_cons (pv 2) pa_nil))))))))), ?_⟩)
  rintro F0 H0 ds R ⟨L, M, x, rfl, ok, rfl⟩
  have n9 := ok.n9
  have hlen : ∀ {Γ : List Sl} {tl : TE}, EvD none Γ tl (.tuple [dRow L, dMat M, x]) → EvD none Γ (tCB (rLn K) (tCons (tOp (rIx K) tl (tC (.int 0))) tNil)) (dI L.length) := fun h => Ev.to (ev_lenT (ev_pt 0 h)) (by rw [List.length_map])
  refine q_newL (q_newL ?_)
  refine q_asg (Ev.to (ev_lc0 (List.range L.length) dI (fun a => [a]) dLst (ei_r (hlen (ev_var 0)) (by omega)) (by simp; omega) (by decide) fun a ha => ⟨_, tg_n, ev_l1 (ev_var 7)⟩) (e := .list (((init L).map Prod.snd).map dLst)) (by simp [init, Function.comp_def])) ?_
  refine q_for (ds := (List.range 400).map dI) (ei_r (ev_n 400) (by omega))
    (fun i Γ' => ∃ s4 s5 s6 s8 o nx, Γ' = [.d (.tuple [dRow L, dMat M, x]), .l ((o.map Prod.fst).map dI), .l ((o.map Prod.snd).map dLst), .d (.list ((nx.map Prod.snd).map dLst)), s4, s5, s6, .u, s8] ∧ BI L M (i + 1) o ∧ (∀ p ∈ nx, Gw L M (i + 1) p) ∧ i ≤ 400 ∧ runL L M (400 - i) o nx = ordL L M)
    ⟨_, _, _, _, [], init L, rfl, ⟨List.nodup_nil, fun _ z => by simp at z⟩, init_g, by omega, rfl⟩ ?_ ?_
  · rintro i d Γ' hd ⟨s4, s5, s6, s8, o, nx, rfl, bi, hnx, hi4, eq⟩
    obtain ⟨b, hb, rfl⟩ := map_at hd
    have hi : i < 400 := by
      have := (List.getElem?_eq_some_iff.mp hb).1
      simpa using this
    refine ⟨_, _, tg_n, q_newL ?_⟩
    refine q_for (ds := (nx.map Prod.snd).map dLst) (ei_l (ev_var 3)) (fun j Γ' => ∃ s6 s8, Γ' = [.d (.tuple [dRow L, dMat M, x]), .l (((insA o (nx.take j)).map Prod.fst).map dI), .l (((insA o (nx.take j)).map Prod.snd).map dLst), .d (.list ((nx.map Prod.snd).map dLst)), .d (dI b), .l ((((insA o (nx.take j)).drop o.length).map Prod.snd).map dLst), s6, .u, s8])
      ⟨_, _, by show _ = [_, _, _, _, _, Sl.l ((((insA o []).drop o.length).map Prod.snd).map dLst), _, _, _]
                rw [show insA o [] = o from rfl, List.drop_length]
                rfl⟩ ?_ ?_
    · rintro j d Γ' hd ⟨s6, s8, rfl⟩
      obtain ⟨row, hrow, rfl⟩ := map_at hd
      obtain ⟨p, hp, rfl⟩ := map_at hrow
      have gp := hnx p (List.mem_of_getElem? hp)
      have bj := BI.insA (nx.take j) bi fun q hq => hnx q (List.mem_of_mem_take hq)
      have few := bj.few ok
      obtain ⟨e, he⟩ := insA_pre (nx.take j) o
      have e1 : insA o (nx.take (j + 1)) = ins (insA o (nx.take j)) p := by
        rw [take_snoc hp]
        unfold insA
        rw [List.foldl_append]
        rfl
      rw [e1]
      generalize insA o (nx.take j) = oj at bj few he ⊢
      refine ⟨_, _, tg_n, q_asg (Ev.to (ev_call2 (ev_var 0) (ev_var 6) ⟨L, M, x, p.2, rfl, ok, gp.1, gp.2.1, rfl⟩) (e := dI p.1) (by rw [gp.2.2.1])) ?_⟩
      refine sx_if (et_test (ev_niI (l := oj.map Prod.fst) (ev_var 8) rfl)) (fun e2 => ?_) fun e2 => ?_
      · have e2 : p.1 ∉ oj.map Prod.fst := by simpa using e2
        have e3 : ins oj p = oj ++ [p] := by rw [ins, if_neg e2]
        have e4 : (oj ++ [p]).drop o.length = oj.drop o.length ++ [p] := by
          rw [List.drop_append_of_le_length]
          rw [he, List.length_append]
          omega
        rw [e3, e4]
        have l1 : (oj.drop o.length).length ≤ 9 := by rw [List.length_drop]; omega
        refine q_app rfl (ev_var 8) (by simp; omega) (q_app rfl (ev_var 6) (by simp; omega) (sx_one (q_app rfl (ev_var 6) (by simp only [List.length_map]; omega) (sx_next ⟨.d (dLst p.2), .d (dI p.1), ?_⟩))))
        simp only [List.map_append]
        rfl
      · have e2 : p.1 ∈ oj.map Prod.fst := by simpa using e2
        have e3 : ins oj p = oj := by rw [ins, if_pos e2]
        rw [e3]
        exact sx_next ⟨.d (dLst p.2), .d (dI p.1), rfl⟩
    · rintro Γ' ⟨s6, s8, rfl⟩
      rw [List.length_map, List.length_map, List.take_length]
      have bj := BI.insA nx bi hnx
      have few := bj.few ok
      obtain ⟨k, hk⟩ : ∃ k, 400 - i = k + 1 := ⟨399 - i, by omega⟩
      rw [hk, runL] at eq
      generalize insA o nx = oj at bj few eq ⊢
      have lf : (oj.drop o.length).length ≤ 9 := by rw [List.length_drop]; omega
      have gf : ∀ p ∈ oj.drop o.length, Gw L M (i + 1) p := fun p hp => bj.g p (List.mem_of_mem_drop hp)
      generalize oj.drop o.length = fr at lf gf eq ⊢
      refine q_frz 5 (q_asg ev_l0 ?_)
      refine q_for (ds := (fr.map Prod.snd).map dLst) (ei_l (ev_var 5)) (fun j Γ' => ∃ s6, Γ' = [.d (.tuple [dRow L, dMat M, x]), .l ((oj.map Prod.fst).map dI), .l ((oj.map Prod.snd).map dLst), .d (.list (((nxt L M (fr.take j)).map Prod.snd).map dLst)), .d (dI b), .d (.list ((fr.map Prod.snd).map dLst)), s6, .u, s8]) ⟨_, rfl⟩ ?_ ?_
      · rintro j d Γ' hd ⟨s6, rfl⟩
        obtain ⟨row, hrow, rfl⟩ := map_at hd
        obtain ⟨p, hp, rfl⟩ := map_at hrow
        have gp := gf p (List.mem_of_getElem? hp)
        have hl4 := gp.2.2.2
        have lt : (nxt L M (fr.take j)).length ≤ 9 * 4 := by
          rw [nxt_len]
          refine Nat.mul_le_mul ?_ ok.n9
          rw [List.length_take]
          omega
        have e1 : nxt L M (fr.take (j + 1)) = nxt L M (fr.take j) ++ (List.range L.length).map fun a => (mu M p.1 (L.getD a 0), p.2 ++ [a]) := by
          rw [take_snoc hp]
          unfold nxt
          rw [List.flatMap_append]
          simp
        rw [e1]
        refine ⟨_, _, tg_n, sx_one (q_asg (Ev.to (ev_cat (ev_var 3) (ev_lc0 (List.range L.length) dI (fun a => p.2 ++ [a]) dLst (ei_r (hlen (ev_var 0)) (by omega)) (by simp; omega) (by decide) fun a ha => ⟨_, tg_n, Ev.to (ev_cat (ev_var 6) (ev_l1 (ev_var 7)) (by simp; omega)) (by simp)⟩) (by simp; omega)) rfl) (sx_next ⟨.d (dLst p.2), ?_⟩))⟩
        simp only [List.map_append, List.map_map]
        rfl
      · rintro Γ' ⟨s6, rfl⟩
        rw [List.length_map, List.length_map, List.take_length]
        refine sx_if (et_test (ev_eq (Ev.to (ev_lenL (ev_var 3)) (by rw [List.length_map, List.length_map])) (ev_n 0))) (fun e => ?_) fun e => ?_
        · have e := of_decide_eq_true e
          rw [if_pos e] at eq
          refine q_frz 1 (q_frz 2 (sx_ret (Ev.to (ev_l2 (ev_var 1) (ev_var 2)) ?_)))
          rw [eq]
        · have e := of_decide_eq_false e
          rw [if_neg e] at eq
          exact sx_next ⟨_, _, _, _, oj, nxt L M fr, rfl, bj.mono (Nat.le_succ _), nxt_g gf, hi, by rw [show 400 - (i + 1) = k by omega]; exact eq⟩
  · rintro Γ' ⟨s4, s5, s6, s8, o, nx, rfl, bi, hnx, hi4, eq⟩
    rw [List.length_map, List.length_range, Nat.sub_self, runL] at eq
    refine q_frz 1 (q_frz 2 (sx_ret (Ev.to (ev_l2 (ev_var 1) (ev_var 2)) ?_)))
    rw [eq]
end
end KK
namespace KK
open PySem PySem.Spec PyProof.Rows L2
section
variable {P : Program} {w : World} {K : PySem.W.Frag} {mg : Str → Option Value} {base : Heap}
/-! ### the law: a reader tidied -/
abbrev sL_tidied : Stmt := topS 32
abbrev nL_tidied : List Str := ["_law_reader_here", "_law_order", "_law_numbers", "_law_v", "_law_mul", "_law_accepted", "_law_x", "_law_s", "_law_f", "_law_y"]
theorem scL_tidied : FnScope nL_tidied ["_law_reader_here"] (defScope sL_tidied) := ⟨rfl, rfl, rfl, by decide +kernel, rfl, by decide +kernel, by decide +kernel⟩
def fs_tidied : List PyData → (Hp → V → Prop) → Prop := fun ds R => ∃ r, ds = [dRd r] ∧ TdOk r ∧ R = IsD (dRd (tidyL r))
theorem ok_tidied {f : Addr} {fd : FuncData} (Fn : Fun K "_law_tidied" "_law_tidied" sL_tidied f fd) (T : Bt mg) (CL_found : Cl P w K mg base 2 "_law_found" ["_law_reader_here"] (spD fs_found)) : FnOk P w K mg base CX0 3 f fd ["_law_reader_here"] (spD fs_tidied) := by
  refine fn_d Fn scL_tidied (fun ds R h => by obtain ⟨r, rfl, _⟩ := h; rfl) (fun cdv A outer s H E hr => ⟨_, (pss_cons (ps_asg (pe_ix (ixK K) (pe_c CL_found (hr.mono (by decide)) (pa_cons (pv 0) pa_nil)) pe_int (fun _ _ => rfl)) (pgn 1 scL_tidied.nd))
(pss_cons (ps_asg pe_dnewK (pgn 2 scL_tidied.nd))
(pss_cons (ps_for PassesOwn.never rfl (ilK K (pv 1)) (pgn 3 scL_tidied.nd)
(pss_one (ps_dput (hu_of hr) (pv 2) (pv 3) (pe_callB c_lenD (by rfl) T.len PySem.boot_len (pa_cons (pv 2) pa_nil)) rfl)))
(pss_cons (ps_asg (pe_callTy (tupleK K) (by rfl) T.tuple (by decide +kernel) (pa_cons (pe_lc (own := [("_law_x", 6)]) rfl scL_tidied.nd (ilK K (pv 1)) (blkOk_by (by kernel_rfl)) (fun _ _ _ _ _ => (pgn 6 scL_tidied.nd)) (fun _ _ _ _ _ => pts_nil) (fun _ _ _ _ _ => (pe_callTy (tupleK K) (by rfl) T.tuple (by decide +kernel) (pa_cons (pe_lc (own := [("_law_y", 9)]) rfl scL_tidied.nd (ilK K (pv 1)) (blkOk_by (by kernel_rfl)) (fun _ _ _ _ _ => (pgn 9 scL_tidied.nd)) (fun _ _ _ _ _ => pts_nil) (fun _ _ _ _ _ => (pe_dget (hu_of hr) (pv 2) (pe_ix (ixK K) (pe_ix (ixK K) (pe_ix (ixK K) (pv 0) pe_int (fun _ _ => rfl)) (pv 6) (fun _ _ => rfl)) (pv 9) (fun _ _ => rfl)) (fun _ _ => rfl)))) pa_nil)))) pa_nil)) (pgn 4 scL_tidied.nd))
(pss_cons (ps_setLc (i := 5) (own := [("_law_s", 7), ("_law_f", 8)]) rfl scL_tidied.nd rfl rfl (sw_true rfl rfl rfl (by decide +kernel)) (itK K (pe_ix (ixK K) (pv 0) pe_int (fun _ _ => rfl))) (blkOk_by (by kernel_rfl)) (fun _ _ _ _ _ => (tgK K (n := 2) rfl (pgs_cons (pgn 7 scL_tidied.nd) (pgs_cons (pgn 8 scL_tidied.nd) pgs_nil)))) (fun _ _ _ _ _ => (pts_one (PW.pt (pw_and (pt_cmp (pc_din (hu_of hr) (pv 7) (pv 2))) (pw_and1 (pt_cmp (pc_din (hu_of hr) (pv 8) (pv 2)))))))) (fun _ _ _ _ _ => (pe_tup (pa_cons (pe_dget (hu_of hr) (pv 2) (pv 7) (fun _ _ => rfl)) (pa_cons (pe_dget (hu_of hr) (pv 2) (pv 8) (fun _ _ => rfl)) pa_nil)))))
(pss_one (ps_ret (pe_tup (pa_cons (pe_callTy (tupleK K) (by rfl) T.tuple (by decide +kernel) (pa_cons (pe_lc (own := [("_law_v", 3)]) rfl scL_tidied.nd (itK K (pe_ix (ixK K) (pv 0) pe_int (fun _ _ => rfl))) (blkOk_by (by kernel_rfl)) (fun _ _ _ _ _ => (pgn 3 scL_tidied.nd)) (fun _ _ _ _ _ => pts_nil) (fun _ _ _ _ _ => (pe_dget (hu_of hr) (pv 2) (pv 3) (fun _ _ => rfl)))) pa_nil)) (pa_cons (pv 4) (pa_cons (pe_callTy (tupleK K) (by rfl) T.tuple (by decide +kernel) (pa_cons (pe_callB (sortK K (hu64 hr)) (by rfl) T.sorted (by decide +kernel) (pa_cons (pv 5) pa_nil)) pa_nil)) pa_nil))))))))))), ?_⟩)
  rintro F0 H0 ds R ⟨r, rfl, td, rfl⟩
  have ok := td.ok
  have hn9 : (ordV r.L r.M).length ≤ 9 := Nat.le_trans (nodup_le r.M.length _ td.nd td.lt) ok.m9
  refine q_asg (ev_pl 0 (ev_call1 (ev_var 0) ⟨r.L, r.M, _, rfl, ok, rfl⟩)) ?_
  refine q_newK ?_
  refine q_for (ds := (ordV r.L r.M).map dI) (ei_l (ev_var 1)) (fun j Γ' => ∃ s3, Γ' = [.d (dRd r), .d (dLst (ordV r.L r.M)), .k (numD ((ordV r.L r.M).take j)), s3, .u, .u, .u, .u, .u, .u]) ⟨_, rfl⟩ ?_ ?_
  · rintro j d Γ' hd ⟨s3, rfl⟩
    obtain ⟨x, hx, rfl⟩ := map_at hd
    have hs : ((ordV r.L r.M).take j).Nodup := td.nd.sublist (List.take_sublist _ _)
    refine ⟨_, _, tg_n, sx_one (q_putK (i := x) rfl (ev_lenK 2) (ev_var 3) (by rw [(numD_ok _ hs).1, List.length_take]; omega) (sx_next ⟨.d (dI x), ?_⟩))⟩
    rw [take_snoc hx, numD_snoc]
    rfl
  · rintro Γ' ⟨s3, rfl⟩
    rw [List.length_map, List.take_length]
    have hD := (numD_ok _ td.nd).2
    generalize ho : ordV r.L r.M = o at hD hn9 ⊢
    have hlt := td.lt
    have hcl := td.cl
    have hcm := td.cm
    rw [ho] at hlt hcl hcm
    refine q_frzK 2 ?_
    refine q_asg (ev_tuL (ev_lc0 o dI (fun x => o.map fun y => num o (mu r.M x y)) dRow (ei_l (ev_var 1)) (by omega) (by decide) fun x hx => ⟨_, tg_n, ev_tuL (Ev.to (ev_lc0 o dI (fun y => num o (mu r.M x y)) dI (ei_l (ev_var 1)) (by omega) (by decide) fun y hy => ⟨_, tg_n,
      ev_fgetK (ev_var 2) (ev_mu (ev_pt 1 (ev_var 0)) (ev_var 6) (ev_var 9) ok.sq (hlt x hx) (hlt y hy)) (by rw [hD, if_pos (hcm x hx y hy)])⟩) rfl)⟩)) ?_
    refine q_asg (ev_lc r.A dPr (fun p => (num o p.1, num o p.2)) dPr (fun p => decide (p.1 ∈ o) && decide (p.2 ∈ o)) (ei_t (ev_pt 2 (ev_var 0))) (by have := td.al; omega) (by decide) fun p hp => ⟨_, tg_2, ?_, fun hpp => ?_⟩) ?_
    · have hin : ∀ x : Nat, (valV (numD o) (kN x)).isSome = decide (x ∈ o) := fun x => by
        rw [hD]
        by_cases h : x ∈ o
        · rw [if_pos h, decide_eq_true h]; rfl
        · rw [if_neg h, decide_eq_false h]; rfl
      exact et_and (et_B (Ev.to (ev_finK (ev_var 7) (ev_var 2)) (by rw [hin]))) fun _ => et_B (Ev.to (ev_finK (ev_var 8) (ev_var 2)) (by rw [hin]))
    · have hpp : p.1 ∈ o ∧ p.2 ∈ o := by simpa using hpp
      exact ev_t2 (ev_fgetK (ev_var 2) (ev_var 7) (by rw [hD, if_pos hpp.1])) (ev_fgetK (ev_var 2) (ev_var 8) (by rw [hD, if_pos hpp.2]))
    refine sx_ret (Ev.to (ev_t3 (ev_tuL (ev_lc0 r.L dI (num o) dI (ei_t (ev_pt 0 (ev_var 0))) (by have := ok.n9; omega) (by decide) fun x hx => ⟨_, tg_n, ev_fgetK (ev_var 2) (ev_var 3) (by rw [hD, if_pos (hcl x hx)])⟩)) (ev_var 4) (ev_tuL (ev_srt2 (ev_var 5)))) ?_)
    unfold tidyL tidyO
    rw [ho]
abbrev sL_built : Stmt := topS 37
abbrev nL_built : List Str := ["_law_reader_here", "_law_size", "_law_steps", "_law_a", "_law_gates", "_law_letters", "_law_mul", "_law_accepted", "_law_state", "_law_goal", "_law_i"]
theorem scL_built : FnScope nL_built ["_law_reader_here"] (defScope sL_built) := ⟨rfl, rfl, rfl, by decide +kernel, rfl, by decide +kernel, by decide +kernel⟩
def fs_built : List PyData → (Hp → V → Prop) → Prop := fun ds R => ∃ r, ds = [dRd r] ∧ TdOk r ∧ (tidyL r).A.length ≤ 81 ∧ (tidyL r).L.length ≤ 4 ∧ (tidyL r).M.length ≤ 9 ∧ (∀ x ∈ (tidyL r).L, x < (tidyL r).M.length) ∧ Sq (tidyL r).M ∧ R = IsD (dAc (builtM r))
theorem ok_built {f : Addr} {fd : FuncData} (Fn : Fun K "_law_built" "_law_built" sL_built f fd) (T : Bt mg) (CL_tidied : Cl P w K mg base 3 "_law_tidied" ["_law_reader_here"] (spD fs_tidied)) (CL_gate : Cl P w K mg base 1 "_law_gate" ["_law_size", "_law_i"] (spD fs_gate)) :
    FnOk P w K mg base CX0 4 f fd ["_law_reader_here"] (spD fs_built) := by
  refine fn_d Fn scL_built (fun ds R h => by obtain ⟨r, rfl, _⟩ := h; rfl) (fun cdv A outer s H E hr => ⟨_, (pss_cons (ps_asg (pe_c CL_tidied (hr.mono (by decide)) (pa_cons (pv 0) pa_nil)) (tgK K (n := 3) rfl (pgs_cons (pgn 5 scL_built.nd) (pgs_cons (pgn 6 scL_built.nd) (pgs_cons (pgn 7 scL_built.nd) pgs_nil)))))
(pss_cons (ps_asg (pe_callB (lenK K) (by rfl) T.len PySem.boot_len (pa_cons (pv 6) pa_nil)) (pgn 1 scL_built.nd))
(pss_cons (ps_asg (pe_lst pa_nil) (pgn 2 scL_built.nd))
(pss_cons (ps_for PassesOwn.never rfl (pi_range1 (by rfl) T.range (pa_cons (pe_callB (lenK K) (by rfl) T.len PySem.boot_len (pa_cons (pv 5) pa_nil)) pa_nil)) (pgn 3 scL_built.nd)
(pss_one (ps_for PassesOwn.never rfl (pi_range1 (by rfl) T.range (pa_cons (pe_op op_add (pv 1) pe_int) pa_nil)) (pgn 8 scL_built.nd)
(pss_cons (ps_asg (pe_ix (ixK K) (pv 5) (pv 3) (fun _ _ => rfl)) (pgn 9 scL_built.nd))
(pss_cons (ps_if (pt_cmpR op_gt (pv 8) pe_int (nomark _))
(pss_one (ps_asg (pe_ix (ixK K) (pe_ix (ixK K) (pv 6) (pe_op op_sub (pv 8) pe_int) (fun _ _ => rfl)) (pe_ix (ixK K) (pv 5) (pv 3) (fun _ _ => rfl)) (fun _ _ => rfl)) (pgn 9 scL_built.nd)))
pss_nil)
(pss_cons (ps_expr (bmK K PySem.F.plainAttrs_list PySem.F.slot_list_append PySem.F.type_list_append mt_append (pv 2) (pa_cons (pe_tup (pa_cons (pv 8) (pa_cons (pv 3) (pa_cons (pe_op op_add pe_int (pv 9)) pa_nil)))) pa_nil)))
(pss_one (ps_for PassesOwn.never rfl (pi_range1 (by rfl) T.range (pa_cons (pe_callB (lenK K) (by rfl) T.len PySem.boot_len (pa_cons (pv 7) pa_nil)) pa_nil)) (pgn 10 scL_built.nd)
(pss_cons (ps_if (pt_cmpR op_eq (pe_ix (ixK K) (pe_ix (ixK K) (pv 7) (pv 10) (fun _ _ => rfl)) pe_int (fun _ _ => rfl)) (pv 9) (nomark _))
(pss_one (ps_expr (bmK K PySem.F.plainAttrs_list PySem.F.slot_list_append PySem.F.type_list_append mt_append (pv 2) (pa_cons (pe_tup (pa_cons (pv 8) (pa_cons (pv 3) (pa_cons (pe_c CL_gate (hr.mono (by decide)) (pa_cons (pv 1) (pa_cons (pv 10) pa_nil))) pa_nil)))) pa_nil))))
pss_nil)
(pss_cons (ps_expr (bmK K PySem.F.plainAttrs_list PySem.F.slot_list_append PySem.F.type_list_append mt_append (pv 2) (pa_cons (pe_tup (pa_cons (pe_op op_add (pe_c CL_gate (hr.mono (by decide)) (pa_cons (pv 1) (pa_cons (pv 10) pa_nil))) (pv 8)) (pa_cons (pv 3) (pa_cons (pe_op op_add (pe_op op_add (pe_c CL_gate (hr.mono (by decide)) (pa_cons (pv 1) (pa_cons (pv 10) pa_nil))) pe_int) (pv 9)) pa_nil)))) pa_nil)))
(pss_one (ps_if (pt_cmpR op_eq (pe_ix (ixK K) (pe_ix (ixK K) (pv 7) (pv 10) (fun _ _ => rfl)) pe_int (fun _ _ => rfl)) (pv 9) (nomark _))
(pss_one (ps_expr (bmK K PySem.F.plainAttrs_list PySem.F.slot_list_append PySem.F.type_list_append mt_append (pv 2) (pa_cons (pe_tup (pa_cons (pe_op op_add (pe_c CL_gate (hr.mono (by decide)) (pa_cons (pv 1) (pa_cons (pv 10) pa_nil))) (pv 8)) (pa_cons (pv 3) (pa_cons (pe_c CL_gate (hr.mono (by decide)) (pa_cons (pv 1) (pa_cons (pv 10) pa_nil))) pa_nil)))) pa_nil))))
pss_nil))))))))))))
(pss_cons (ps_asg (pe_callTy (tupleK K) (by rfl) T.tuple (by decide +kernel) (pa_cons (pe_lc (own := [("_law_i", 10)]) rfl scL_built.nd (pi_range1 (by rfl) T.range (pa_cons (pe_callB (lenK K) (by rfl) T.len PySem.boot_len (pa_cons (pv 7) pa_nil)) pa_nil)) (blkOk_by (by kernel_rfl)) (fun _ _ _ _ _ => (pgn 10 scL_built.nd)) (fun _ _ _ _ _ => pts_nil) (fun _ _ _ _ _ => (pe_c CL_gate (hr.mono (by decide)) (pa_cons (pv 1) (pa_cons (pv 10) pa_nil))))) pa_nil)) (pgn 4 scL_built.nd))
(pss_one (ps_ret (pe_tup (pa_cons (pe_callB (lenK K) (by rfl) T.len PySem.boot_len (pa_cons (pv 5) pa_nil)) (pa_cons (pe_op op_add (pe_op op_add pe_int (pv 1)) (pe_op op_mul (pe_callB (lenK K) (by rfl) T.len PySem.boot_len (pa_cons (pv 7) pa_nil)) (pe_op op_add (pv 1) pe_int))) (pa_cons (pe_tup (pa_cons pe_int pa_nil)) (pa_cons (pe_callTy (tupleK K) (by rfl) T.tuple (by decide +kernel) (pa_cons (pe_callB (sortK K (hu64 hr)) (by rfl) T.sorted (by decide +kernel) (pa_cons (pv 2) pa_nil)) pa_nil)) (pa_cons (pv 4) pa_nil))))))))))))), ?_⟩)
  rintro F0 H0 ds R ⟨r, rfl, td, hA, hL, hM, hlt, sq, rfl⟩
  refine q_unp (ev_call1 (ev_var 0) ⟨r, rfl, td, rfl⟩) tg_3 ?_
  have eR : IsD (dAc (builtM r)) = IsD (dAc (accM (tidyL r) (bAll (tidyL r)))) := rfl
  rw [eR]
  generalize tidyL r = t at hA hL hM hlt sq ⊢
  have gm : ∀ {Γ : List Sl} {ta tb : TE} {i : Nat}, EvD none Γ ta (dI t.M.length) → EvD none Γ tb (dI i) → EvD none Γ (tCall (spD fs_gate) [] E0 (tCons ta (tCons tb tNil))) (dI (gateM t.M.length i)) := fun h1 h2 => ev_call2 h1 h2 ⟨t.M.length, _, rfl, by omega, rfl⟩
  have hl5 : ∀ {Γ : List Sl} {ta : TE} {l : List Nat}, EvD none Γ ta (dRow l) → EvD none Γ (tCB (rLn K) (tCons ta tNil)) (dI l.length) := fun h => Ev.to (ev_lenT h) (by rw [List.length_map])
  have hl7 : ∀ {Γ : List Sl} {ta : TE} {l : List (Nat × Nat)}, EvD none Γ ta (dPs l) → EvD none Γ (tCB (rLn K) (tCons ta tNil)) (dI l.length) := fun h => Ev.to (ev_lenT h) (by rw [List.length_map])
  refine q_asg (Ev.to (ev_lenT (ev_var 6)) (e := dI t.M.length) (by rw [List.length_map])) ?_
  refine q_newL ?_
  have zAll : ∀ k, (((List.range t.L.length).take k).flatMap (bA t)).length ≤ 4 * (10 * 244) := fun k => Nat.le_trans (bAll_len t k) (Nat.mul_le_mul hL (Nat.mul_le_mul (by omega) (by omega)))
  have zA : ∀ a k, (((List.range (t.M.length + 1)).take k).flatMap (bS t a)).length ≤ 10 * 244 := fun a k => Nat.le_trans (bA_len t a k) (Nat.mul_le_mul (by omega) (by omega))
  have zS : ∀ a st k, ((st, a, 1 + goalM t a st) :: ((List.range t.A.length).take k).flatMap (bI t a st)).length ≤ 244 := fun a st k => Nat.le_trans (bS_len t a st k) (by omega)
  refine q_for (ds := (List.range t.L.length).map dI) (ei_r (hl5 (ev_var 5)) (by omega)) (fun i Γ' => ∃ s3 s8 s9 s10, Γ' = [.d (dRd r), .d (dI t.M.length), .l ((((List.range t.L.length).take i).flatMap (bA t)).map dT3), s3, .u, .d (dRow t.L), .d (dMat t.M), .d (dPs t.A), s8, s9, s10]) ⟨_, _, _, _, rfl⟩ ?_ ?_
  · rintro i d Γ' hd ⟨s3, s8, s9, s10, rfl⟩
    obtain ⟨a, ha, rfl⟩ := map_at hd
    have haL : a < t.L.length := by simpa using List.mem_of_getElem? ha
    have ea : ((List.range t.L.length).take (i + 1)).flatMap (bA t) = ((List.range t.L.length).take i).flatMap (bA t) ++ bA t a := by
      rw [take_snoc ha, List.flatMap_append]
      simp
    rw [ea]
    have z0 := zAll i
    generalize ((List.range t.L.length).take i).flatMap (bA t) = acc at z0 ⊢
    refine ⟨_, _, tg_n, ?_⟩
    refine Sx.imp (sx_for (ds := (List.range (t.M.length + 1)).map dI) (ei_r (ev_add (ev_var 1) (ev_n 1)) (by omega)) (fun j Γ' => ∃ s8 s9 s10, Γ' = [.d (dRd r), .d (dI t.M.length), .l ((acc ++ ((List.range (t.M.length + 1)).take j).flatMap (bS t a)).map dT3), .d (dI a), .u, .d (dRow t.L), .d (dMat t.M), .d (dPs t.A), s8, s9, s10]) ⟨s8, s9, s10, by simp⟩ ?_) ?_
    · rintro j d Γ' hd ⟨s8, s9, s10, rfl⟩
      obtain ⟨st, hst, rfl⟩ := map_at hd
      have hstM : st < t.M.length + 1 := by simpa using List.mem_of_getElem? hst
      have es : ((List.range (t.M.length + 1)).take (j + 1)).flatMap (bS t a) = ((List.range (t.M.length + 1)).take j).flatMap (bS t a) ++ bS t a st := by
        rw [take_snoc hst, List.flatMap_append]
        simp
      rw [es, ← List.append_assoc]
      have z1 : (acc ++ ((List.range (t.M.length + 1)).take j).flatMap (bS t a)).length ≤ 4 * (10 * 244) + 10 * 244 := by
        have := zA a j
        rw [List.length_append]
        omega
      generalize acc ++ ((List.range (t.M.length + 1)).take j).flatMap (bS t a) = ac2 at z1 ⊢
      refine ⟨_, _, tg_n, q_asg (ev_row (ev_var 5) (ev_var 3) haL) ?_⟩
      refine q_if (M := fun Γ' => Γ' = [.d (dRd r), .d (dI t.M.length), .l (ac2.map dT3), .d (dI a), .u, .d (dRow t.L), .d (dMat t.M), .d (dPs t.A), .d (dI st), .d (dI (goalM t a st)), s10]) (et_test (ev_gt (ev_var 8) (ev_n 0))) (fun e => ?_) (fun e => ?_) ?_
      · have e := of_decide_eq_true e
        refine sx_one (q_asg (ev_mu (ev_var 6) (ev_sub (ev_var 8) (ev_n 1) e) (ev_row (ev_var 5) (ev_var 3) haL) sq (by omega) (hlt _ (getD_mem haL))) (sx_next ?_))
        rw [goalM, if_neg (by omega)]
        rfl
      · have e := of_decide_eq_false e
        refine sx_next ?_
        rw [goalM, if_pos (by omega)]
        rfl
      · rintro Γ' rfl
        refine q_app rfl (d := dT3 (st, a, 1 + goalM t a st)) (ev_t3 (ev_var 8) (ev_var 3) (ev_add (ev_n 1) (ev_var 9))) (by simp; omega) ?_
        refine Sx.imp (sx_for (ds := (List.range t.A.length).map dI) (ei_r (hl7 (ev_var 7)) (by omega)) (fun k Γ' => ∃ s10, Γ' = [.d (dRd r), .d (dI t.M.length), .l ((ac2 ++ (st, a, 1 + goalM t a st) :: ((List.range t.A.length).take k).flatMap (bI t a st)).map dT3), .d (dI a), .u, .d (dRow t.L), .d (dMat t.M), .d (dPs t.A), .d (dI st), .d (dI (goalM t a st)), s10]) ⟨s10, by simp⟩ ?_) ?_
        · rintro k d Γ' hd ⟨s10, rfl⟩
          obtain ⟨i', hi', rfl⟩ := map_at hd
          have hiA : i' < t.A.length := by simpa using List.mem_of_getElem? hi'
          have ei : ((List.range t.A.length).take (k + 1)).flatMap (bI t a st) = ((List.range t.A.length).take k).flatMap (bI t a st) ++ bI t a st i' := by
            rw [take_snoc hi', List.flatMap_append]
            simp
          rw [ei, ← List.cons_append, ← List.append_assoc]
          have z2 : (ac2 ++ (st, a, 1 + goalM t a st) :: ((List.range t.A.length).take k).flatMap (bI t a st)).length ≤ 4 * (10 * 244) + 10 * 244 + 244 := by
            have := zS a st k
            rw [List.length_append]
            omega
          generalize ac2 ++ (st, a, 1 + goalM t a st) :: ((List.range t.A.length).take k).flatMap (bI t a st) = ac3 at z2 ⊢
          have pr : ∀ {Γ : List Sl}, Γ[7]? = some (.d (dPs t.A)) → Γ[10]? = some (.d (dI i')) → EvD none Γ (tOp (rIx K) (tVar 7) (tVar 10)) (dPr (t.A.getD i' (0, 0))) := fun h1 h2 => ev_ixT (ev_var 7 h1) (ev_var 10 h2) (pr_at dPr hiA)
          refine ⟨_, _, tg_n, ?_⟩
          refine q_if (M := fun Γ' => Γ' = [.d (dRd r), .d (dI t.M.length), .l ((ac3 ++ (if (t.A.getD i' (0, 0)).1 = goalM t a st then [(st, a, gateM t.M.length i')] else [])).map dT3), .d (dI a), .u, .d (dRow t.L), .d (dMat t.M), .d (dPs t.A), .d (dI st), .d (dI (goalM t a st)), .d (dI i')]) (et_test (ev_eq (ev_pt 0 (pr rfl rfl)) (ev_var 9))) (fun e => ?_) (fun e => ?_) ?_
          · have e := of_decide_eq_true e
            refine sx_one (q_app rfl (d := dT3 (st, a, gateM t.M.length i')) (ev_t3 (ev_var 8) (ev_var 3) (gm (ev_var 1) (ev_var 10))) (by simp; omega) (sx_next ?_))
            rw [if_pos e, List.map_append]
            rfl
          · have e := of_decide_eq_false e
            refine sx_next ?_
            rw [if_neg e, List.append_nil]
            rfl
          · rintro Γ' rfl
            have z3 : (ac3 ++ (if (t.A.getD i' (0, 0)).1 = goalM t a st then [(st, a, gateM t.M.length i')] else [])).length ≤ 4 * (10 * 244) + 10 * 244 + 245 := by
              rw [List.length_append]
              split <;> simp <;> omega
            refine q_app rfl (d := dT3 (gateM t.M.length i' + st, a, gateM t.M.length i' + 1 + goalM t a st)) (ev_t3 (ev_add (gm (ev_var 1) (ev_var 10)) (ev_var 8)) (ev_var 3) (ev_add (ev_add (gm (ev_var 1) (ev_var 10)) (ev_n 1)) (ev_var 9))) (by simp only [List.length_map]; omega) ?_
            refine sx_if (et_test (ev_eq (ev_pt 1 (pr rfl rfl)) (ev_var 9))) (fun e => ?_) fun e => ?_
            · have e := of_decide_eq_true e
              refine sx_one (q_app rfl (d := dT3 (gateM t.M.length i' + st, a, gateM t.M.length i')) (ev_t3 (ev_add (gm (ev_var 1) (ev_var 10)) (ev_var 8)) (ev_var 3) (gm (ev_var 1) (ev_var 10))) (by simp only [List.length_append, List.length_map, List.length_singleton] at z3 ⊢; omega) (sx_next ⟨.d (dI i'), ?_⟩))
              rw [bI, if_pos e]
              simp only [List.map_append, List.append_assoc]
              rfl
            · have e := of_decide_eq_false e
              refine sx_next ⟨.d (dI i'), ?_⟩
              rw [bI, if_neg e]
              simp only [List.map_append, List.append_assoc, List.append_nil]
              rfl
        · rintro Γ' ⟨s10, rfl⟩
          rw [List.length_map, List.take_length]
          exact ⟨_, _, _, rfl⟩
    · rintro Γ' ⟨s8, s9, s10, rfl⟩
      rw [List.length_map, List.take_length]
      exact ⟨_, _, _, _, rfl⟩
  · rintro Γ' ⟨s3, s8, s9, s10, rfl⟩
    rw [List.length_map, List.take_length]
    refine q_asg (ev_tuL (ev_lc0 (List.range t.A.length) dI (gateM t.M.length) dI (ei_r (hl7 (ev_var 7)) (by omega)) (by simp; omega) (by decide) fun i hi => ⟨_, tg_n, gm (ev_var 1) (ev_var 10)⟩)) ?_
    refine sx_ret (Ev.to (ev_tupA (ds := [_, _, _, _, _]) (ea_cons (hl5 (ev_var 5)) (ea_cons (ev_add (ev_add (ev_n 1) (ev_var 1)) (ev_mul (hl7 (ev_var 7)) (ev_add (ev_var 1) (ev_n 1)) (by omega))) (ea_cons (ev_t1 (ev_n 0)) (ea_cons (ev_tuL (ev_srt3 (l := bAll t) rfl)) (ea_1 (ev_var 4)))))) (by simp)) rfl)
end
end KK
/-! M03: what the program's defs reckon. -/
namespace KK
open PySem PySem.Spec PyProof.Rows L2
/-! ### dicts that number their keys -/
def numG {κ α : Type} [DecidableEq κ] (kf : α → κ) (o : List α) : List (κ × V) := o.foldl (fun acc v => putK acc (kf v) (vN acc.length)) []
theorem numG_snoc {κ α : Type} [DecidableEq κ] (kf : α → κ) {o : List α} (x : α) : numG kf (o ++ [x]) = putK (numG kf o) (kf x) (vN (numG kf o).length) := by
  unfold numG
  rw [List.foldl_append]
  rfl
theorem numG_ok {κ α : Type} [DecidableEq κ] [BEq α] [LawfulBEq α] [DecidableEq α] (kf : α → κ) (inj : ∀ a b, kf a = kf b → a = b) : ∀ (n : Nat) (o : List α), o.length = n → o.Nodup → (numG kf o).length = o.length ∧ ∀ x, valV (numG kf o) (kf x) = if x ∈ o then some (vN (o.idxOf x)) else none := by
  intro n
  induction n with
  | zero =>
    intro o hl _
    have : o = [] := List.length_eq_zero_iff.mp hl
    subst this
    exact ⟨rfl, fun x => rfl⟩
  | succ n ih =>
    intro o hl hn
    have hne : o ≠ [] := fun z => by rw [z] at hl; cases hl
    obtain ⟨p, y, rfl⟩ : ∃ p y, o = p ++ [y] := ⟨o.dropLast, o.getLast hne, (List.dropLast_concat_getLast hne).symm⟩
    have hp : p.length = n := by simpa using hl
    rw [List.nodup_append] at hn
    obtain ⟨h1, h2, h3⟩ := hn
    have ny : y ∉ p := fun z => h3 y z y (by simp) rfl
    obtain ⟨i1, i2⟩ := ih p hp h1
    have e0 : valV (numG kf p) (kf y) = none := by rw [i2, if_neg ny]
    rw [numG_snoc]
    refine ⟨by rw [putK_new _ e0, List.length_append, i1]; simp, fun x => ?_⟩
    rw [valV_put, i2, i1]
    by_cases hx : x = y
    · subst hx
      rw [if_pos rfl, if_pos (by simp)]
      rw [List.idxOf_append, if_neg ny]
      simp
    · rw [if_neg fun z => hx (inj _ _ z)]
      by_cases hm : x ∈ p
      · rw [if_pos hm, if_pos (by simp [hm])]
        rw [List.idxOf_append, if_pos hm]
      · rw [if_neg hm, if_neg (by simp [hm, hx])]
theorem kT_inj : ∀ {a b : List Nat}, kT a = kT b → a = b
  | [], [], _ => rfl
  | [], _ :: _, h => by cases h
  | _ :: _, [], h => by cases h
  | a :: l, b :: m, h => by
    have h1 : kN a = kN b ∧ kT l = kT m := by
      simp only [kT, List.map_cons, List.cons.injEq] at h
      exact h
    rw [kN_inj h1.1, kT_inj h1.2]
/-- the accepted pairs as a dict -/
def knD (A : List (Nat × Nat)) : List (List L2.Key × V) := A.foldl (fun acc p => putK acc (kT [p.1, p.2]) (.bl true)) []
theorem knD_ok (p : Nat × Nat) : ∀ (A : List (Nat × Nat)) (acc : List (List L2.Key × V)), (valV (A.foldl (fun acc p => putK acc (kT [p.1, p.2]) (V.bl true)) acc) (kT [p.1, p.2])).isSome = ((valV acc (kT [p.1, p.2])).isSome || decide (p ∈ A))
  | [], acc => by simp
  | q :: A, acc => by
    rw [List.foldl_cons, knD_ok p A, valV_put]
    by_cases h : p = q
    · subst h; simp
    · have h2 : ¬ kT [p.1, p.2] = kT [q.1, q.2] := fun z => h (by
        have := kT_inj z
        simp only [List.cons.injEq, and_true] at this
        exact Prod.ext this.1 this.2)
      rw [if_neg h2]
      simp [h]
theorem knD_in (A : List (Nat × Nat)) (p : Nat × Nat) : (valV (knD A) (kT [p.1, p.2])).isSome = decide (p ∈ A) := by
  unfold knD
  rw [knD_ok]
  simp [valV_nil]
/-! ### steps -/
def goalP (M : List (List Nat)) (x st : Nat) : Nat := if st = 0 then x else mu M (st - 1) x
def begS (M : List (List Nat)) (Ag : List ((Nat × Nat) × Nat)) (a x st : Nat) : List (Nat × Nat × Nat) :=
  (st, a, 1 + goalP M x st) :: ((Ag.filter fun q => decide (q.1.1 = goalP M x st)).map fun q => (st, a, q.2))
def begM (M : List (List Nat)) (Ag : List ((Nat × Nat) × Nat)) (a x : Nat) : List (Nat × Nat × Nat) := (List.range (1 + M.length)).flatMap (begS M Ag a x)
def rndS (M : List (List Nat)) (f gate a x st : Nat) : List (Nat × Nat × Nat) :=
  (gate + st, a, gate + 1 + goalP M x st) :: (if goalP M x st = f then [(gate + st, a, gate)] else [])
def rndM (M : List (List Nat)) (f gate a x : Nat) : List (Nat × Nat × Nat) := (List.range (1 + M.length)).flatMap (rndS M f gate a x)
def gatesM (t : Rd) : List Nat := (List.range t.A.length).map (gateM t.M.length)
def pK (t : Rd) (a x : Nat) (q : (Nat × Nat) × Nat) : List (Nat × Nat × Nat) := rndM t.M q.1.2 ((gatesM t).getD q.2 0) a x
def pA (t : Rd) (q : Nat × Nat) : List (Nat × Nat × Nat) := begM t.M (t.A.zip (gatesM t)) q.2 q.1 ++ t.A.zipIdx.flatMap (pK t q.2 q.1)
def pAll (t : Rd) : List (Nat × Nat × Nat) := t.L.zipIdx.flatMap (pA t)
theorem begS_len (M : List (List Nat)) (Ag : List ((Nat × Nat) × Nat)) (a x st : Nat) : (begS M Ag a x st).length ≤ 1 + Ag.length := by
  unfold begS
  rw [List.length_cons, List.length_map]
  have := List.length_filter_le (fun q : (Nat × Nat) × Nat => decide (q.1.1 = goalP M x st)) Ag
  omega
theorem begM_len (M : List (List Nat)) (Ag : List ((Nat × Nat) × Nat)) (a x k : Nat) : (((List.range (1 + M.length)).take k).flatMap (begS M Ag a x)).length ≤ (1 + M.length) * (1 + Ag.length) := by
  have h := flat_len (f := begS M Ag a x) (n := 1 + Ag.length) ((List.range (1 + M.length)).take k) fun y _ => begS_len M Ag a x y
  have h2 : ((List.range (1 + M.length)).take k).length ≤ 1 + M.length := by rw [List.length_take, List.length_range]; omega
  exact Nat.le_trans h (Nat.mul_le_mul_right _ h2)
theorem rndS_len (M : List (List Nat)) (f gate a x st : Nat) : (rndS M f gate a x st).length ≤ 2 := by
  unfold rndS
  split <;> simp
theorem rndM_len (M : List (List Nat)) (f gate a x k : Nat) : (((List.range (1 + M.length)).take k).flatMap (rndS M f gate a x)).length ≤ (1 + M.length) * 2 := by
  have h := flat_len (f := rndS M f gate a x) (n := 2) ((List.range (1 + M.length)).take k) fun y _ => rndS_len M f gate a x y
  have h2 : ((List.range (1 + M.length)).take k).length ≤ 1 + M.length := by rw [List.length_take, List.length_range]; omega
  exact Nat.le_trans h (Nat.mul_le_mul_right _ h2)
theorem begM_len' (M : List (List Nat)) (Ag : List ((Nat × Nat) × Nat)) (a x : Nat) : (begM M Ag a x).length ≤ (1 + M.length) * (1 + Ag.length) := by
  have h := begM_len M Ag a x (1 + M.length)
  rw [List.take_of_length_le (by simp)] at h
  exact h
theorem rndM_len' (M : List (List Nat)) (f gate a x : Nat) : (rndM M f gate a x).length ≤ (1 + M.length) * 2 := by
  have h := rndM_len M f gate a x (1 + M.length)
  rw [List.take_of_length_le (by simp)] at h
  exact h
theorem pK_len (t : Rd) (a x k : Nat) : ((t.A.zipIdx.take k).flatMap (pK t a x)).length ≤ t.A.length * ((1 + t.M.length) * 2) := by
  have h := flat_len (f := pK t a x) (n := (1 + t.M.length) * 2) (t.A.zipIdx.take k) fun y _ => rndM_len' _ _ _ _ _
  have h2 : (t.A.zipIdx.take k).length ≤ t.A.length := by rw [List.length_take, List.length_zipIdx]; omega
  exact Nat.le_trans h (Nat.mul_le_mul_right _ h2)
theorem pA_len (t : Rd) (q : Nat × Nat) : (pA t q).length ≤ (1 + t.M.length) * (1 + t.A.length) + t.A.length * ((1 + t.M.length) * 2) := by
  unfold pA
  have h := pK_len t q.2 q.1 t.A.length
  rw [List.take_of_length_le (by simp)] at h
  have h2 := begM_len' t.M (t.A.zip (gatesM t)) q.2 q.1
  have h3 : (t.A.zip (gatesM t)).length = t.A.length := by
    unfold gatesM
    rw [List.length_zip, List.length_map, List.length_range, Nat.min_self]
  rw [h3] at h2
  rw [List.length_append]
  omega
theorem pAll_len (t : Rd) (k : Nat) : ((t.L.zipIdx.take k).flatMap (pA t)).length ≤ t.L.length * ((1 + t.M.length) * (1 + t.A.length) + t.A.length * ((1 + t.M.length) * 2)) := by
  have h := flat_len (f := pA t) (n := (1 + t.M.length) * (1 + t.A.length) + t.A.length * ((1 + t.M.length) * 2)) (t.L.zipIdx.take k) fun y _ => pA_len t y
  have h2 : (t.L.zipIdx.take k).length ≤ t.L.length := by rw [List.length_take, List.length_zipIdx]; omega
  exact Nat.le_trans h (Nat.mul_le_mul_right _ h2)
/-! ### the tidied reader, as the program reckons it -/
def accP (o : List Nat) (r : Rd) : List (Nat × Nat) :=
  o.zipIdx.flatMap fun q => (o.zipIdx.filter fun q' => (decide (mu (tidyO o r).M q.2 q'.2 = q.2) && decide (mu (tidyO o r).M q'.2 q'.2 = q'.2)) && decide ((q.1, q'.1) ∈ r.A)).map fun q' => (q.2, q'.2)
def tidyP (r : Rd) : Rd where
  L := (tidyO (ordV r.L r.M) r).L
  M := (tidyO (ordV r.L r.M) r).M
  A := accP (ordV r.L r.M) r
def acM (r : Rd) : Ac := accM (tidyP r) (pAll (tidyP r))
/-- what the program's tidying rests on -/
structure OrdOk (L : List Nat) (M : List (List Nat)) : Prop where
  bi : BI L M 500 (ordL L M)
  pre : ∀ (j : Nat) (p : Wd), (ordL L M)[j]? = some p → ∀ w a, p.2 = w ++ [a] → w ≠ [] → w ∈ ((ordL L M).take j).map Prod.snd
  cl : ∀ x ∈ L, x ∈ ordV L M
  cm : ∀ x ∈ ordV L M, ∀ y ∈ ordV L M, mu M x y ∈ ordV L M
  as : ∀ x y z, x < M.length → y < M.length → z < M.length → mu M (mu M x y) z = mu M x (mu M y z)
/-! ### rounds of the program: those that are not there yet -/
theorem insA_cons (o : List Wd) (p : Wd) (w : List Wd) : insA o (p :: w) = insA (ins o p) w := rfl
theorem ins_keys {o : List Wd} {p : Wd} {x : Nat} (h : x ∈ o.map Prod.fst) : x ∈ (ins o p).map Prod.fst := by
  obtain ⟨e, he⟩ := ins_pre o p
  rw [he, List.map_append]
  exact List.mem_append_left _ h
theorem insA_filter (keys : List Nat) : ∀ (nx o : List Wd), (∀ x ∈ keys, x ∈ o.map Prod.fst) → insA o (nx.filter fun p => !decide (p.1 ∈ keys)) = insA o nx
  | [], _, _ => rfl
  | p :: nx, o, h => by
    by_cases m : p.1 ∈ keys
    · rw [List.filter_cons, if_neg (by simp [m]), insA_cons]
      have e : ins o p = o := by rw [ins, if_pos (h _ m)]
      rw [e]
      exact insA_filter keys nx o h
    · rw [List.filter_cons, if_pos (by simp [m]), insA_cons, insA_cons]
      exact insA_filter keys nx _ fun x hx => ins_keys (h x hx)
theorem runL_two (L : List Nat) (M : List (List Nat)) (k : Nat) (o nx : List Wd) : runL L M (k + 2) o nx = runL L M (k + 1) (insA o nx) (nxt L M ((insA o nx).drop o.length)) := by
  rw [runL]
  by_cases e : (nxt L M ((insA o nx).drop o.length)).length = 0
  · rw [if_pos e]
    have e2 := List.length_eq_zero_iff.mp e
    rw [e2, runL]
    have e3 : insA (insA o nx) [] = insA o nx := rfl
    rw [e3, List.drop_length]
    rfl
  · rw [if_neg e]
theorem runL_end (L : List Nat) (M : List (List Nat)) (k : Nat) (o nx : List Wd) (h : insA o nx = o) : runL L M (k + 1) o nx = o := by
  rw [runL, h, List.drop_length]
  rfl
end KK
namespace KK
open PySem PySem.Spec PyProof.Rows L2
section
variable {P : Program} {w : World} {K : PySem.W.Frag} {mg : Str → Option Value} {base : Heap}
/-! ### the program: steps -/
abbrev sround_steps : Stmt := topS 15
abbrev nround_steps : List Str := ["a", "x", "mul", "f", "gate", "steps", "state", "goal"]
theorem scround_steps : FnScope nround_steps ["a", "x", "mul", "f", "gate"] (defScope sround_steps) := ⟨rfl, rfl, rfl, by decide +kernel, rfl, by decide +kernel, by decide +kernel⟩
def fs_rnd : List PyData → (Hp → V → Prop) → Prop := fun ds R => ∃ a x M f gate, ds = [dI a, dI x, dMat M, dI f, dI gate] ∧ Sq M ∧ x < M.length ∧ M.length ≤ 9 ∧ R = IsD (.list ((rndM M f gate a x).map dT3))
theorem ok_round_steps {f : Addr} {fd : FuncData} (Fn : Fun K "round_steps" "round_steps" sround_steps f fd) (T : Bt mg) : FnOk P w K mg base CX0 1 f fd ["a", "x", "mul", "f", "gate"] (spD fs_rnd) := by
  refine fn_d Fn scround_steps (fun ds R h => by obtain ⟨a, x, M, f, gate, rfl, _⟩ := h; rfl) (fun cdv A outer s H E hr => ⟨_, (pss_cons (ps_asg (pe_lst pa_nil) (pgn 5 scround_steps.nd))
(pss_cons (ps_for PassesOwn.never rfl (pi_range1 (by rfl) T.range (pa_cons (pe_op op_add pe_int (pe_callB (lenK K) (by rfl) T.len PySem.boot_len (pa_cons (pv 2) pa_nil))) pa_nil)) (pgn 6 scround_steps.nd)
(pss_cons (ps_asg (pe_ifExp (pt_cmpR op_eq (pv 6) pe_int (nomark _)) (pv 1) (pe_ix (ixK K) (pe_ix (ixK K) (pv 2) (pe_op op_sub (pv 6) pe_int) (fun _ _ => rfl)) (pv 1) (fun _ _ => rfl))) (pgn 7 scround_steps.nd))
(pss_cons (ps_expr (bmK K PySem.F.plainAttrs_list PySem.F.slot_list_append PySem.F.type_list_append mt_append (pv 5) (pa_cons (pe_tup (pa_cons (pe_op op_add (pv 4) (pv 6)) (pa_cons (pv 0) (pa_cons (pe_op op_add (pe_op op_add (pv 4) pe_int) (pv 7)) pa_nil)))) pa_nil)))
(pss_one (ps_if (pt_cmpR op_eq (pv 7) (pv 3) (nomark _))
(pss_one (ps_expr (bmK K PySem.F.plainAttrs_list PySem.F.slot_list_append PySem.F.type_list_append mt_append (pv 5) (pa_cons (pe_tup (pa_cons (pe_op op_add (pv 4) (pv 6)) (pa_cons (pv 0) (pa_cons (pv 4) pa_nil)))) pa_nil))))
pss_nil)))))
(pss_one (ps_ret (pv 5))))), ?_⟩)
  rintro F0 H0 ds R ⟨a, x, M, f, gate, rfl, sq, hx, h9, rfl⟩
  refine q_newL ?_
  have hl : ∀ {Γ : List Sl} {ta : TE}, EvD none Γ ta (dMat M) → EvD none Γ (tCB (rLn K) (tCons ta tNil)) (dI M.length) := fun h => Ev.to (ev_lenT h) (by rw [List.length_map])
  refine q_for (ds := (List.range (1 + M.length)).map dI) (ei_r (ev_add (ev_n 1) (hl (ev_var 2))) (by omega)) (fun i Γ' => ∃ s6 s7, Γ' = [.d (dI a), .d (dI x), .d (dMat M), .d (dI f), .d (dI gate), .l ((((List.range (1 + M.length)).take i).flatMap (rndS M f gate a x)).map dT3), s6, s7]) ⟨_, _, rfl⟩ ?_ ?_
  · rintro i d Γ' hd ⟨s6, s7, rfl⟩
    obtain ⟨st, hst, rfl⟩ := map_at hd
    have hstM : st < 1 + M.length := by simpa using List.mem_of_getElem? hst
    have ea : ((List.range (1 + M.length)).take (i + 1)).flatMap (rndS M f gate a x) = ((List.range (1 + M.length)).take i).flatMap (rndS M f gate a x) ++ rndS M f gate a x st := by
      rw [take_snoc hst, List.flatMap_append]
      simp
    rw [ea]
    have z0 := rndM_len M f gate a x i
    have z1 : (1 + M.length) * 2 ≤ 20 := by omega
    generalize ((List.range (1 + M.length)).take i).flatMap (rndS M f gate a x) = acc at z0 ⊢
    refine ⟨_, _, tg_n, ?_⟩
    refine q_asg (d := dI (goalP M x st)) (ev_if (et_test (ev_eq (ev_var 6) (ev_n 0))) (fun e => Ev.to (ev_var 1) ?_) fun e => Ev.to (ev_mu (ev_var 2) (ev_sub (ev_var 6) (ev_n 1) ?_) (ev_var 1) sq ?_ hx) ?_) ?_
    · rw [goalP, if_pos (of_decide_eq_true e)]
    · have e := of_decide_eq_false e
      omega
    · have e := of_decide_eq_false e
      omega
    · rw [goalP, if_neg (of_decide_eq_false e)]
    refine q_app rfl (d := dT3 (gate + st, a, gate + 1 + goalP M x st)) (ev_t3 (ev_add (ev_var 4) (ev_var 6)) (ev_var 0) (ev_add (ev_add (ev_var 4) (ev_n 1)) (ev_var 7))) (by simp; omega) ?_
    refine sx_if (et_test (ev_eq (ev_var 7) (ev_var 3))) (fun e => ?_) fun e => ?_
    · have e := of_decide_eq_true e
      refine sx_one (q_app rfl (d := dT3 (gate + st, a, gate)) (ev_t3 (ev_add (ev_var 4) (ev_var 6)) (ev_var 0) (ev_var 4)) (by simp; omega) (sx_next ⟨.d (dI st), .d (dI (goalP M x st)), ?_⟩))
      rw [rndS, if_pos e]
      simp only [List.map_append, List.append_assoc]
      rfl
    · have e := of_decide_eq_false e
      refine sx_next ⟨.d (dI st), .d (dI (goalP M x st)), ?_⟩
      rw [rndS, if_neg e]
      simp only [List.map_append]
      rfl
  · rintro Γ' ⟨s6, s7, rfl⟩
    rw [List.length_map, List.take_length]
    exact q_frz 5 (sx_ret (ev_var 5))
abbrev sbeginning_steps : Stmt := topS 14
abbrev nbeginning_steps : List Str := ["a", "x", "mul", "accepted", "gates", "steps", "state", "goal", "gate", "s", "_"]
theorem scbeginning_steps : FnScope nbeginning_steps ["a", "x", "mul", "accepted", "gates"] (defScope sbeginning_steps) := ⟨rfl, rfl, rfl, by decide +kernel, rfl, by decide +kernel, by decide +kernel⟩
def fs_beg : List PyData → (Hp → V → Prop) → Prop := fun ds R => ∃ a x M A g, ds = [dI a, dI x, dMat M, dPs A, dRow g] ∧ Sq M ∧ x < M.length ∧ M.length ≤ 9 ∧ A.length ≤ 81 ∧ R = IsD (.list ((begM M (A.zip g) a x).map dT3))
theorem ok_beginning_steps {f : Addr} {fd : FuncData} (Fn : Fun K "beginning_steps" "beginning_steps" sbeginning_steps f fd) (T : Bt mg) : FnOk P w K mg base CX0 1 f fd ["a", "x", "mul", "accepted", "gates"] (spD fs_beg) := by
  refine fn_d Fn scbeginning_steps (fun ds R h => by obtain ⟨a, x, M, A, g, rfl, _⟩ := h; rfl) (fun cdv A outer s H E hr => ⟨_, (pss_cons (ps_asg (pe_lst pa_nil) (pgn 5 scbeginning_steps.nd))
(pss_cons (ps_for PassesOwn.never rfl (pi_range1 (by rfl) T.range (pa_cons (pe_op op_add pe_int (pe_callB (lenK K) (by rfl) T.len PySem.boot_len (pa_cons (pv 2) pa_nil))) pa_nil)) (pgn 6 scbeginning_steps.nd)
(pss_cons (ps_asg (pe_ifExp (pt_cmpR op_eq (pv 6) pe_int (nomark _)) (pv 1) (pe_ix (ixK K) (pe_ix (ixK K) (pv 2) (pe_op op_sub (pv 6) pe_int) (fun _ _ => rfl)) (pv 1) (fun _ _ => rfl))) (pgn 7 scbeginning_steps.nd))
(pss_cons (ps_expr (bmK K PySem.F.plainAttrs_list PySem.F.slot_list_append PySem.F.type_list_append mt_append (pv 5) (pa_cons (pe_tup (pa_cons (pv 6) (pa_cons (pv 0) (pa_cons (pe_op op_add pe_int (pv 7)) pa_nil)))) pa_nil)))
(pss_one (ps_aug (i := 5) scbeginning_steps.nd rfl (by first | exact Or.inl rfl | exact Or.inr rfl) (pe_lc (own := [("gate", 8), ("s", 9), ("_", 10)]) rfl scbeginning_steps.nd (izK K (by rfl) T.zip (pa_cons (pv 3) (pa_cons (pv 4) pa_nil))) (blkOk_by (by kernel_rfl)) (fun _ _ _ _ _ => (tgK K (n := 2) rfl (pgs_cons (tgK K (n := 2) rfl (pgs_cons (pgn 9 scbeginning_steps.nd) (pgs_cons (pgn 10 scbeginning_steps.nd) pgs_nil))) (pgs_cons (pgn 8 scbeginning_steps.nd) pgs_nil)))) (fun _ _ _ _ _ => (pts_one (pt_cmpR op_eq (pv 9) (pv 7) (nomark _)))) (fun _ _ _ _ _ => (pe_tup (pa_cons (pv 6) (pa_cons (pv 0) (pa_cons (pv 8) pa_nil)))))) iop_ext)))))
(pss_one (ps_ret (pv 5))))), ?_⟩)
  rintro F0 H0 ds R ⟨a, x, M, A, g, rfl, sq, hx, h9, hA, rfl⟩
  refine q_newL ?_
  have hl : ∀ {Γ : List Sl} {ta : TE}, EvD none Γ ta (dMat M) → EvD none Γ (tCB (rLn K) (tCons ta tNil)) (dI M.length) := fun h => Ev.to (ev_lenT h) (by rw [List.length_map])
  have hAg : (A.zip g).length ≤ 81 := by rw [List.length_zip]; omega
  refine q_for (ds := (List.range (1 + M.length)).map dI) (ei_r (ev_add (ev_n 1) (hl (ev_var 2))) (by omega)) (fun i Γ' => ∃ s6 s7, Γ' = [.d (dI a), .d (dI x), .d (dMat M), .d (dPs A), .d (dRow g), .l ((((List.range (1 + M.length)).take i).flatMap (begS M (A.zip g) a x)).map dT3), s6, s7, .u, .u, .u]) ⟨_, _, rfl⟩ ?_ ?_
  · rintro i d Γ' hd ⟨s6, s7, rfl⟩
    obtain ⟨st, hst, rfl⟩ := map_at hd
    have hstM : st < 1 + M.length := by simpa using List.mem_of_getElem? hst
    have ea : ((List.range (1 + M.length)).take (i + 1)).flatMap (begS M (A.zip g) a x) = ((List.range (1 + M.length)).take i).flatMap (begS M (A.zip g) a x) ++ begS M (A.zip g) a x st := by
      rw [take_snoc hst, List.flatMap_append]
      simp
    rw [ea]
    have z0 : (((List.range (1 + M.length)).take i).flatMap (begS M (A.zip g) a x)).length ≤ 10 * 82 := Nat.le_trans (begM_len M (A.zip g) a x i) (Nat.mul_le_mul (by omega) (by omega))
    generalize ((List.range (1 + M.length)).take i).flatMap (begS M (A.zip g) a x) = acc at z0 ⊢
    refine ⟨_, _, tg_n, ?_⟩
    refine q_asg (d := dI (goalP M x st)) (ev_if (et_test (ev_eq (ev_var 6) (ev_n 0))) (fun e => Ev.to (ev_var 1) ?_) fun e => Ev.to (ev_mu (ev_var 2) (ev_sub (ev_var 6) (ev_n 1) ?_) (ev_var 1) sq ?_ hx) ?_) ?_
    · rw [goalP, if_pos (of_decide_eq_true e)]
    · have e := of_decide_eq_false e
      omega
    · have e := of_decide_eq_false e
      omega
    · rw [goalP, if_neg (of_decide_eq_false e)]
    refine q_app rfl (d := dT3 (st, a, 1 + goalP M x st)) (ev_t3 (ev_var 6) (ev_var 0) (ev_add (ev_n 1) (ev_var 7))) (by simp; omega) ?_
    refine sx_one (q_ext rfl (ev_lc (A.zip g) (fun p => .tuple [dPr p.1, dI p.2]) (fun q => (st, a, q.2)) dT3 (fun q => decide (q.1.1 = goalP M x st)) (ei_zipT (ev_var 3) (ev_var 4)) (by omega) (by decide) fun q hq => ⟨_, tg_t (tga_cons tg_2 (tga_cons tg_n tga_nil)), et_test (ev_eq (ev_var 9) (ev_var 7)), fun _ => ev_t3 (ev_var 6) (ev_var 0) (ev_var 8)⟩) ?_ (sx_next ⟨.d (dI st), .d (dI (goalP M x st)), ?_⟩))
    · have := List.length_filter_le (fun q : (Nat × Nat) × Nat => decide (q.1.1 = goalP M x st)) (A.zip g)
      simp only [List.length_append, List.length_map, List.length_singleton]
      omega
    · rw [begS]
      simp only [List.map_append, List.append_assoc]
      rfl
  · rintro Γ' ⟨s6, s7, rfl⟩
    rw [List.length_map, List.take_length]
    exact q_frz 5 (sx_ret (ev_var 5))
/-! ### the program: a row of products -/
abbrev rtM (o : List Nat) (L : List Nat) (M : List (List Nat)) : List (List Nat) := o.map fun x => (List.range L.length).map fun a => num o (mu M x (L.getD a 0))
theorem ov_at {L : List Nat} {M : List (List Nat)} {i : Nat} (h : i < (ordL L M).length) : (ordV L M).getD i 0 = ((ordL L M)[i]).1 := by
  unfold ordV
  rw [List.getD_eq_getElem?_getD, List.getElem?_map, List.getElem?_eq_getElem h]
  rfl
theorem num_lt {o : List Nat} {x : Nat} (h : x ∈ o) : num o x < o.length := List.idxOf_lt_length_of_mem h
theorem num_at {o : List Nat} {x : Nat} (h : x ∈ o) : o.getD (num o x) 0 = x := by
  unfold num
  rw [List.getD_eq_getElem?_getD, List.getElem?_eq_getElem (List.idxOf_lt_length_of_mem h)]
  exact List.getElem_idxOf _
abbrev sproduct_row : Stmt := topS 9
abbrev nproduct_row : List Str := ["number", "right", "words", "places", "row", "place", "word", "before"]
theorem scproduct_row : FnScope nproduct_row ["number", "right", "words"] (defScope sproduct_row) := ⟨rfl, rfl, rfl, by decide +kernel, rfl, by decide +kernel, by decide +kernel⟩
def fs_prow : List PyData → (Hp → V → Prop) → Prop := fun ds R => ∃ L M s, ds = [dI s, .list ((rtM (ordV L M) L M).map dLst), .list (((ordL L M).map Prod.snd).map dLst)] ∧ Ok L M ∧ OrdOk L M ∧ s < (ordV L M).length ∧ R = IsD (dRow ((ordV L M).map fun y => num (ordV L M) (mu M ((ordV L M).getD s 0) y)))
theorem ok_product_row {f : Addr} {fd : FuncData} (Fn : Fun K "product_row" "product_row" sproduct_row f fd) (T : Bt mg) : FnOk P w K mg base CX0 1 f fd ["number", "right", "words"] (spD fs_prow) := by
  refine fn_d Fn scproduct_row (fun ds R h => by obtain ⟨L, M, s, rfl, _⟩ := h; rfl) (fun cdv A outer s H E hr => ⟨_, (pss_cons (ps_asg pe_dnewT (pgn 3 scproduct_row.nd))
(pss_cons (ps_asg (pe_lst pa_nil) (pgn 4 scproduct_row.nd))
(pss_cons (ps_for PassesOwn.never rfl (ienK K (by rfl) T.enumerate (pa_cons (pv 2) pa_nil)) (tgK K (n := 2) rfl (pgs_cons (pgn 5 scproduct_row.nd) (pgs_cons (pgn 6 scproduct_row.nd) pgs_nil)))
(pss_cons (ps_dput (hu_of hr) (pv 3) (pe_callTy (tupleK K) (by rfl) T.tuple (by decide +kernel) (pa_cons (pv 6) pa_nil)) (pv 5) rfl)
(pss_cons (ps_asg (pe_ifExp (pt_cmpR op_eq (pe_callB (lenK K) (by rfl) T.len PySem.boot_len (pa_cons (pv 6) pa_nil)) pe_int (nomark _)) (pv 0) (pe_ix (ixK K) (pv 4) (pe_dget (hu_of hr) (pv 3) (pe_callTy (tupleK K) (by rfl) T.tuple (by decide +kernel) (pa_cons (pe_slice (slK K) (pv 6) po_none (po_some (pe_un un_neg pe_int))) pa_nil)) (fun _ _ => rfl)) (fun _ _ => rfl))) (pgn 7 scproduct_row.nd))
(pss_one (ps_expr (bmK K PySem.F.plainAttrs_list PySem.F.slot_list_append PySem.F.type_list_append mt_append (pv 4) (pa_cons (pe_ix (ixK K) (pe_ix (ixK K) (pv 1) (pv 7) (fun _ _ => rfl)) (pe_ix (ixK K) (pv 6) (pe_un un_neg pe_int) (fun _ _ => rfl)) (fun _ _ => rfl)) pa_nil)))))))
(pss_one (ps_ret (pe_callTy (tupleK K) (by rfl) T.tuple (by decide +kernel) (pa_cons (pv 4) pa_nil))))))), ?_⟩)
  rintro F0 H0 ds R ⟨L, M, s, rfl, ok, oo, hs, rfl⟩
  have few := oo.bi.few ok
  have hol : (ordV L M).length = (ordL L M).length := by unfold ordV; rw [List.length_map]
  have ndw : ((ordL L M).map Prod.snd).Nodup := by
    have h := oo.bi.nd
    rw [List.Nodup, List.pairwise_map] at h ⊢
    refine List.Pairwise.imp_of_mem ?_ h
    intro p q hp hq ne e
    exact ne (by rw [(oo.bi.g p hp).2.2.1, (oo.bi.g q hq).2.2.1, e])
  have olt : ∀ x ∈ ordV L M, x < M.length := fun x hx => by
    obtain ⟨p, hp, rfl⟩ := List.mem_map.mp hx
    exact (oo.bi.g p hp).lt ok
  refine q_newT (q_newL ?_)
  generalize hxs : (ordV L M).getD s 0 = xs
  have xsm : xs ∈ ordV L M := by rw [← hxs]; exact getD_mem hs
  refine q_for (ei_enum (l := (ordL L M).map Prod.snd) (dd := dLst) (ev_var 2)) (fun i Γ' => ∃ s5 s6 s7, Γ' = [.d (dI s), .d (.list ((rtM (ordV L M) L M).map dLst)), .d (.list (((ordL L M).map Prod.snd).map dLst)), .t (numG kT (((ordL L M).map Prod.snd).take i)), .l ((((ordL L M).take i).map fun p => num (ordV L M) (mu M xs p.1)).map dI), s5, s6, s7]) ⟨_, _, _, rfl⟩ ?_ ?_
  · rintro j d Γ' hd ⟨s5, s6, s7, rfl⟩
    obtain ⟨q, hq, rfl⟩ := map_at hd
    rw [List.getElem?_zipIdx] at hq
    obtain ⟨wd, hwd, hq⟩ : ∃ wd, ((ordL L M).map Prod.snd)[j]? = some wd ∧ (wd, 0 + j) = q := by
      cases g : ((ordL L M).map Prod.snd)[j]? with
      | none => rw [g] at hq; cases hq
      | some wd => rw [g] at hq; exact ⟨wd, rfl, by simpa using hq⟩
    subst hq
    rw [Nat.zero_add]
    obtain ⟨p, hp, rfl⟩ := map_at hwd
    have hj : j < (ordL L M).length := (List.getElem?_eq_some_iff.mp hp).1
    have gp := oo.bi.g p (List.mem_of_getElem? hp)
    have ndt : (((ordL L M).map Prod.snd).take j).Nodup := ndw.sublist (List.take_sublist _ _)
    obtain ⟨k1, k2⟩ := numG_ok kT (fun _ _ h => kT_inj h) _ _ rfl ndt
    have lt : (((ordL L M).map Prod.snd).take j).length = j := by rw [List.length_take, List.length_map]; omega
    have nds : (((ordL L M).map Prod.snd).take (j + 1)).Nodup := ndw.sublist (List.take_sublist _ _)
    obtain ⟨k3, k4⟩ := numG_ok kT (fun _ _ h => kT_inj h) _ _ rfl nds
    have e1 : numG kT (((ordL L M).map Prod.snd).take (j + 1)) = putK (numG kT (((ordL L M).map Prod.snd).take j)) (kT p.2) (vN j) := by
      rw [take_snoc hwd, numG_snoc, k1, lt]
    obtain ⟨w0, a, hw0⟩ : ∃ w0 a, p.2 = w0 ++ [a] := ⟨p.2.dropLast, p.2.getLast gp.1, (List.dropLast_concat_getLast gp.1).symm⟩
    have haL : a < L.length := gp.2.1 a (by rw [hw0]; simp)
    -- where the row of the word's front stands
    obtain ⟨b, hb, hbw⟩ : ∃ b, b < (ordV L M).length ∧ num (ordV L M) (mu M ((ordV L M).getD b 0) (L.getD a 0)) = num (ordV L M) (mu M xs p.1) ∧
        (if p.2.length = 1 then b = s else ∃ i, i < j ∧ valV (numG kT (((ordL L M).map Prod.snd).take (j + 1))) (kT w0) = some (vN i) ∧ (((ordL L M).take j).map fun p => num (ordV L M) (mu M xs p.1))[i]? = some b) := by
      by_cases h1 : p.2.length = 1
      · refine ⟨s, hs, ?_, by rw [if_pos h1]⟩
        have : w0 = [] := by
          rw [hw0, List.length_append] at h1
          exact List.length_eq_zero_iff.mp (by simpa using h1)
        rw [this] at hw0
        rw [hxs, gp.2.2.1, hw0]
        rfl
      · have h0 : w0 ≠ [] := fun z => h1 (by rw [hw0, z]; rfl)
        have hm := oo.pre j p hp w0 a hw0 h0
        rw [List.map_take] at hm
        have hi := List.idxOf_lt_length_of_mem hm
        have eg : (((ordL L M).map Prod.snd).take j)[(((ordL L M).map Prod.snd).take j).idxOf w0]? = some w0 := by rw [List.getElem?_eq_getElem hi, List.getElem_idxOf hi]
        rw [lt] at hi
        generalize hii : (((ordL L M).map Prod.snd).take j).idxOf w0 = i at hi eg
        have hil : i < (ordL L M).length := by omega
        rw [List.getElem?_take, if_pos hi, List.getElem?_map, List.getElem?_eq_getElem hil] at eg
        have eg : ((ordL L M)[i]).2 = w0 := by simpa using eg
        have gi := oo.bi.g (ordL L M)[i] (List.getElem_mem hil)
        have him : ((ordL L M)[i]).1 ∈ ordV L M := List.mem_map.mpr ⟨_, List.getElem_mem hil, rfl⟩
        have hym := oo.cm xs xsm _ him
        refine ⟨num (ordV L M) (mu M xs ((ordL L M)[i]).1), num_lt hym, ?_, ?_⟩
        · rw [num_at hym, oo.as _ _ _ (olt _ xsm) (olt _ him) (ok.at haL), gp.2.2.1, hw0, wor_snoc h0, gi.2.2.1, eg]
        · rw [if_neg h1]
          refine ⟨i, hi, ?_, ?_⟩
          · have hm2 : w0 ∈ ((ordL L M).map Prod.snd).take (j + 1) := by rw [take_snoc hwd]; exact List.mem_append_left _ hm
            rw [k4, if_pos hm2, take_snoc hwd, List.idxOf_append, if_pos hm, hii]
          · rw [List.getElem?_map, List.getElem?_take, if_pos hi, List.getElem?_eq_getElem hil]
            rfl
    refine ⟨_, _, tg_2, ?_⟩
    refine q_putT (l := p.2) (j := j) rfl (ev_var 5) (ev_tuL (ev_var 6)) (by rw [k1, lt]; omega) ?_
    rw [← e1]
    refine q_asg (d := dI b) (ev_if (et_test (ev_eq (Ev.to (ev_lenL (ev_var 6)) (by rw [List.length_map])) (ev_n 1))) (fun e => Ev.to (ev_var 0) ?_) fun e => ?_) ?_
    · have e := of_decide_eq_true e
      have h2 := hbw.2
      rw [if_pos e] at h2
      rw [h2]
    · have e := of_decide_eq_false e
      have h2 := hbw.2
      rw [if_neg e] at h2
      obtain ⟨i, hi, hv, hrow⟩ := h2
      refine ev_ixC (i := i) rfl (ev_dgetT (l := w0) rfl (ev_tuL (Ev.to (ev_butLast (ev_var 6) eo_none (eo_some (ev_neg ev_int))) ?_)) hv) ?_
      · have hb2 := List.length_map (as := p.2) dI
        rw [hw0, List.map_append]
        simp
      · rw [List.getElem?_map, hrow]
        rfl
    · refine sx_one (q_app rfl (d := dI (num (ordV L M) (mu M xs p.1))) (Ev.to (ev_rowL (l := (rtM (ordV L M) L M).getD b []) (i := a) (ev_ixL (ev_var 1) (ev_var 7) (mat_at dLst (by simpa using hb))) (ev_lastL (ds := w0.map dI) (Ev.to (ev_var 6) (by rw [hw0]; show PyData.list ((w0 ++ [a]).map dI) = _; rw [List.map_append]; rfl)) (ev_neg ev_int)) ?_) ?_) (by simp; omega) (sx_next ⟨.d (dI j), .d (dLst p.2), .d (dI b), ?_⟩))
      · have h1 : (rtM (ordV L M) L M).getD b [] = (List.range L.length).map fun a => num (ordV L M) (mu M ((ordV L M).getD b 0) (L.getD a 0)) := by
          rw [List.getD_eq_getElem?_getD, List.getElem?_map, List.getElem?_eq_getElem hb, List.getD_eq_getElem?_getD, List.getElem?_eq_getElem hb]
          rfl
        rw [h1]
        simpa using haL
      · have h1 : (rtM (ordV L M) L M).getD b [] = (List.range L.length).map fun a => num (ordV L M) (mu M ((ordV L M).getD b 0) (L.getD a 0)) := by
          rw [List.getD_eq_getElem?_getD, List.getElem?_map, List.getElem?_eq_getElem hb, List.getD_eq_getElem?_getD, List.getElem?_eq_getElem hb]
          rfl
        rw [h1, ← hbw.1, List.getD_eq_getElem?_getD, List.getElem?_map, List.getElem?_range haL]
        rfl
      · rw [take_snoc hp]
        simp only [List.map_append]
        rfl
  · rintro Γ' ⟨s5, s6, s7, rfl⟩
    refine sx_ret (Ev.to (ev_tuC 4) ?_)
    have e : (((ordL L M).map Prod.snd).zipIdx.map fun p => PyData.tuple [dI p.2, dLst p.1]).length = (ordL L M).length := by simp
    rw [e, List.take_length]
    simp only [dRow, ordV, List.map_map]
    rfl
end
end KK
namespace KK
open PySem PySem.Spec PyProof.Rows L2
/-! ### the class Table -/
structure Tt (K : PySem.W.Frag) (C : Addr) : Prop where
  cl : Cls K C
  nr : NoAttr K C "reader"
  nk : NoAttr K C "known"
def tfl (vr vk : V) : List (Str × V) := putF "known" vk (putF "reader" vr [])
theorem ne_rk : ¬ (("reader" : Str) = "known") := by decide +kernel
theorem tfl_r (vr vk : V) : (tfl vr vk).lookup ("reader" : Str) = some vr := by
  unfold tfl
  rw [lookup_putF, if_neg ne_rk, lookup_putF, if_pos rfl]
theorem tfl_k (vr vk : V) : (tfl vr vk).lookup ("known" : Str) = some vk := by
  unfold tfl
  rw [lookup_putF, if_pos rfl]
theorem tfl_no (vr vk : V) {m : Str} (h1 : ¬ m = "known") (h2 : ¬ m = "reader") : (tfl vr vk).lookup m = none := by
  unfold tfl
  rw [lookup_putF, if_neg h1, lookup_putF, if_neg h2]
  rfl
def IsTb (C : Addr) (r : Rd) : Hp → V → Prop := fun F v => ∃ x dx vr d, v = .ref x ∧ F x = some (.ins C dx (tfl vr (.ref d))) ∧ Dt F vr (dRd r) ∧ F d = some (.dT (knD r.A))
instance (C : Addr) (r : Rd) : Mn (IsTb C r) := ⟨fun _ _ _ e ⟨x, dx, vr, d, h1, h2, h3, h4⟩ => ⟨x, dx, vr, d, h1, e _ _ h2, Dt.up e _ _ h3, e _ _ h4⟩⟩
section
variable {c : Option Addr} {Γ : List Sl} {ta te : TE} {tr : TA} {K : PySem.W.Frag} {C : Addr} {r : Rd} {R : Hp → V → Prop} {Ps : List (Hp → V → Prop)} {Rl : Hp → List V → (Hp → V → Prop) → Prop} {m : Str}
theorem ev_fldR (T : Tt K C) (h : Ev c Γ ta (IsTb C r)) : EvD c Γ (tFld K ta "reader") (dRd r) := fun F H σ w E Q q => h F H σ w E _ fun v F1 H1 s1 ⟨x, dx, vr, d, e1, e2, e3, e4⟩ => by
  subst e1
  exact ⟨x, C, dx, _, vr, rfl, s1.w.s _ _ e2, T.cl, T.nr, tfl_r _ _, q _ F1 H1 s1 e3⟩
theorem ev_fldK (T : Tt K C) (h : Ev c Γ ta (IsTb C r)) : Ev c Γ (tFld K ta "known") (IsT (knD r.A)) := fun F H σ w E Q q => h F H σ w E _ fun v F1 H1 s1 ⟨x, dx, vr, d, e1, e2, e3, e4⟩ => by
  subst e1
  exact ⟨x, C, dx, _, .ref d, rfl, s1.w.s _ _ e2, T.cl, T.nk, tfl_k _ _, q _ F1 H1 s1 ⟨d, rfl, e4⟩⟩
theorem ev_cm (h : Ev c Γ ta (IsTb C r)) (h1 : ¬ m = "known") (h2 : ¬ m = "reader") (ha : EvA c Γ tr Ps) (hr : ∀ F v vs, IsTb C r F v → All2 F Ps vs → Rl F (v :: vs) R) : Ev c Γ (tMeth C m (spG Rl) [] E0 ta tr) R := fun F H σ w E Q q => h F H σ w E _ fun v F1 H1 s1 p => by
  obtain ⟨x, dx, vr, d, e1, e2, e3, e4⟩ := id p
  refine ⟨x, dx, _, e1, s1.w.s _ _ e2, tfl_no _ _ h1 h2, ha F1 H1 σ s1.w (E.step s1) _ fun vs F2 H2 s2 pa => ?_⟩
  rw [List.append_nil]
  exact ⟨F2, R, s2.w.s, hr F2 v vs (Mn.up _ _ _ s2.f p) pa, fun v' F3 H3 s3 pr => q v' F3 H3 ((s1.trans s2).trans (s3.any s2.w)) pr⟩
end
/-- what __init__ promises -/
def spI (C : Addr) : Sp := fun vs H Q _ => ∃ x dx F vr r, vs = [.ref x, vr] ∧ H x = some (.ins C dx []) ∧ F x = none ∧ Same F H ∧ Dt F vr (dRd r) ∧ r.A.length ≤ 81 ∧
  ∀ F2 H2 d, Same F F2 → Same F2 H2 → F2 x = none → (∀ b o, b ≠ x → H b = some o → H2 b = some o) → (∀ b, F b = none → H b ≠ none → F2 b = none) → F2 d = some (.dT (knD r.A)) → H2 x = some (.ins C dx (tfl vr (.ref d))) → Q .non H2
theorem ev_mkT {c : Option Addr} {Γ : List Sl} {te : TE} {C : Addr} {r : Rd} (h : EvD c Γ te (dRd r)) (hA : r.A.length ≤ 81) : Ev c Γ (tMake C (spI C) [] E0 (tCons te tNil)) (IsTb C r) := fun F H σ w E Q q => h F H σ w E _ fun vr F1 H1 s1 p => by
  intro x dx hx hdx hne
  have nx := s1.w.free hx
  have sm : Same H1 (upd (upd H1 dx (.own x)) x (.ins C dx [])) := fun b o e => by
    rw [upd_ne (ne_of_none e hx), upd_ne (ne_of_none e hdx)]
    exact e
  refine ⟨x, dx, F1, vr, r, rfl, upd_same, nx, s1.w.s.trans sm, p, hA, fun F2 H2 d f1 f2 f3 f4 f5 f6 f7 => ⟨rfl, ?_⟩⟩
  have ncx := s1.w.ne hx
  have hH : ∀ b o, H1 b = some o → H2 b = some o := fun b o e => f4 b o (ne_of_none e hx) (sm b o e)
  refine q _ (upd F2 x (.ins C dx (tfl vr (.ref d)))) H2 (s1.trans ⟨f1.trans (same_new f3), fun b o _ e => hH b o e, fun b e z => ?_, fun b z => ?_, ⟨fun b o e => ?_, fun p' z => ?_⟩⟩) ⟨x, dx, vr, d, rfl, upd_same, Dt.up (f1.trans (same_new f3)) _ _ p, ?_⟩
  · have nb : b ≠ x := fun y => by subst y; exact z hx
    rw [upd_ne nb]
    refine f5 b e ?_
    cases q' : H1 b with
    | none => exact absurd q' z
    | some o => rw [sm b o q']; simp
  · cases q' : H1 b with
    | none => exact absurd q' z
    | some o => rw [hH b o q']; simp
  · by_cases nb : b = x
    · subst nb
      rw [upd_same] at e
      cases e
      exact f7
    · rw [upd_ne nb] at e
      exact f2 b o e
  · obtain ⟨g1, y1, y2, y3, s', l, g2, g3, g4⟩ := s1.w.q p' z
    have nb : p' ≠ x := fun y => by subst y; rw [hx] at g2; cases g2
    refine ⟨?_, y1, y2, y3, s', l, hH _ _ g2, ?_, g4⟩
    · rw [upd_ne nb]
      refine f5 p' g1 ?_
      rw [sm _ _ g2]
      simp
    · rw [upd_ne (ne_of_none g3 nx)]
      exact f1 _ _ g3
  · rw [upd_ne (fun y => by subst y; rw [f3] at f6; cases f6)]
    exact f6
section
variable {P : Program} {w : World} {K : PySem.W.Frag} {mg : Str → Option Value} {base : Heap} {C : Addr}
/-- a def of arguments of any known kind -/
theorem fn_g {x qual : Str} {st : Stmt} {f : Addr} {fd : FuncData} {N ps : List Str} {k : Nat} {Rl : Hp → List V → (Hp → V → Prop) → Prop} (Fn : Fun K x qual st f fd) (S : FnScope N ps (defScope st)) (len : ∀ F vs R, Rl F vs R → vs.length = ps.length)
    (hb : ∀ (cdv : Value) (A : Around) (outer : List PySem.Env) (s : Shared) (H : Hp) (E : XK), Room k (A.deeper (envOfC qual (defScope st) s.heap.objs.size f cdv)) →
      ∃ t, PSs (cxOf CX0 P w K mg base N qual (defScope st) f cdv A outer s H E).nox (defBody st) t ∧ ∀ F0 H0 vs R, Rl F0 vs R → ∃ Ps : List (Hp → V → Prop), Ps.length = vs.length ∧ (∀ (i : Nat) Pi v, Ps[i]? = some Pi → vs[i]? = some v → ∀ F', Same F0 F' → Pi F' v) ∧ Sx ⟨none, F0, H0⟩ (Ps.map Sl.o ++ List.replicate (N.length - Ps.length) .u) t (fun _ => False) R) :
    FnOk P w K mg base CX0 (k + 1) f fd ps (spG Rl) := by
  refine Fn.ok S (fun vs H Q E h => ?_) (fun cdv A outer s H vs Q E hr h => ?_)
  · obtain ⟨F, R, _, hf, _⟩ := h
    exact len F vs R hf
  · obtain ⟨F, R, sm, hf, q⟩ := h
    obtain ⟨t, h1, h2⟩ := hb cdv A outer s H E hr
    refine ⟨t, h1, ?_⟩
    obtain ⟨Ps, hl, hp, hx⟩ := h2 F H vs R hf
    have nc : ∀ {i : Nat} {s : Sl}, (Ps.map Sl.o ++ List.replicate (N.length - Ps.length) Sl.u)[i]? = some s → s.isC = true → False := fun {i s} h c => by
      have hm := List.mem_of_getElem? h
      rcases List.mem_append.mp hm with z | z
      · obtain ⟨d, _, rfl⟩ := List.mem_map.mp z
        cases c
      · rw [(List.mem_replicate.mp z).2] at c
        cases c
    have e0 : Env none F H (L2.start N vs) (Ps.map Sl.o ++ List.replicate (N.length - Ps.length) .u) := by
      refine ⟨by simp [L2.start, hl], fun i s h => ?_, fun i j s1 s2 l h1 h2 c1 c2 h3 h4 => (nc h1 c1).elim⟩
      unfold L2.start
      by_cases hi : i < Ps.length
      · rw [List.getElem?_append_left (by simpa using hi), List.getElem?_map, List.getElem?_eq_getElem hi] at h
        cases h
        have hv : vs[i]? = some (vs[i]'(by omega)) := List.getElem?_eq_getElem _
        refine ⟨some (vs[i]'(by omega)), ?_, _, rfl, hp i _ _ (List.getElem?_eq_getElem hi) hv⟩
        rw [List.getElem?_append_left (by simp; omega), List.getElem?_map, hv]
        rfl
      · have hb : i - Ps.length < N.length - Ps.length := by
          by_cases z : i - Ps.length < N.length - Ps.length
          · exact z
          · rw [List.getElem?_eq_none (by simp; omega)] at h; cases h
        rw [List.getElem?_append_right (by simp; omega)] at h
        simp only [List.length_map] at h
        rw [List.getElem?_replicate, if_pos hb] at h
        cases h
        refine ⟨none, ?_, True.intro⟩
        rw [List.getElem?_append_right (by simp; omega)]
        simp only [List.length_map, ← hl]
        rw [List.getElem?_replicate, if_pos hb]
    exact hx F H _ ⟨Stp.refl (Wf.nil sm), e0, fun i s l h1 h2 h3 => (nc h1 h2).elim⟩ _ (fun _ _ _ _ z => z.elim) fun v F' H' st p => q v F' H' st p
theorem two_ps {F0 : Hp} {P1 P2 : Hp → V → Prop} {v1 v2 : V} [Mn P1] [Mn P2] (h1 : P1 F0 v1) (h2 : P2 F0 v2) : ∀ (i : Nat) Pi v, [P1, P2][i]? = some Pi → [v1, v2][i]? = some v → ∀ F', Same F0 F' → Pi F' v := fun i Pi v a b F' e => by
  match i with
  | 0 => cases a; cases b; exact Mn.up _ _ _ e h1
  | 1 => cases a; cases b; exact Mn.up _ _ _ e h2
  | n + 2 => cases a
theorem three_ps {F0 : Hp} {P1 P2 P3 : Hp → V → Prop} {v1 v2 v3 : V} [Mn P1] [Mn P2] [Mn P3] (h1 : P1 F0 v1) (h2 : P2 F0 v2) (h3 : P3 F0 v3) : ∀ (i : Nat) Pi v, [P1, P2, P3][i]? = some Pi → [v1, v2, v3][i]? = some v → ∀ F', Same F0 F' → Pi F' v := fun i Pi v a b F' e => by
  match i with
  | 0 => cases a; cases b; exact Mn.up _ _ _ e h1
  | 1 => cases a; cases b; exact Mn.up _ _ _ e h2
  | 2 => cases a; cases b; exact Mn.up _ _ _ e h3
  | n + 3 => cases a
abbrev sT_letter : Stmt := inClass (topS 7) 1
abbrev nT_letter : List Str := ["self", "a"]
theorem scT_letter : FnScope nT_letter ["self", "a"] (defScope sT_letter) := ⟨rfl, rfl, rfl, by decide +kernel, rfl, by decide +kernel, by decide +kernel⟩
def rl_letter (C : Addr) : Hp → List V → (Hp → V → Prop) → Prop := fun F vs R => ∃ r v a, vs = [v, vN a] ∧ IsTb C r F v ∧ a < r.L.length ∧ R = IsD (dI (r.L.getD a 0))
theorem ok_letter {f : Addr} {fd : FuncData} (Fn : Fun K "letter" "Table.letter" sT_letter f fd) (Tc : Tt K C) : FnOk P w K mg base CX0 1 f fd ["self", "a"] (spG (rl_letter C)) := by
  refine fn_g Fn scT_letter (fun F vs R h => by obtain ⟨r, v, a, rfl, _⟩ := h; rfl) (fun cdv A outer s H E hr => ⟨_, (pss_one (ps_ret (pe_ix (ixK K) (pe_ix (ixK K) (fldK K (pv 0) rfl) pe_int (fun _ _ => rfl)) (pv 1) (fun _ _ => rfl)))), ?_⟩)
  rintro F0 H0 vs R ⟨r, v, a, rfl, hv, ha, rfl⟩
  refine ⟨[IsTb C r, IsD (dI a)], rfl, two_ps hv (.int _), ?_⟩
  exact sx_ret (ev_row (ev_pt 0 (ev_fldR Tc (ev_var 0))) (ev_var 1) ha)
abbrev sT_join : Stmt := inClass (topS 7) 2
abbrev nT_join : List Str := ["self", "x", "y"]
theorem scT_join : FnScope nT_join ["self", "x", "y"] (defScope sT_join) := ⟨rfl, rfl, rfl, by decide +kernel, rfl, by decide +kernel, by decide +kernel⟩
def rl_join (C : Addr) : Hp → List V → (Hp → V → Prop) → Prop := fun F vs R => ∃ r v x y, vs = [v, vN x, vN y] ∧ IsTb C r F v ∧ Sq r.M ∧ x < r.M.length ∧ y < r.M.length ∧ R = IsD (dI (mu r.M x y))
theorem ok_join {f : Addr} {fd : FuncData} (Fn : Fun K "join" "Table.join" sT_join f fd) (Tc : Tt K C) : FnOk P w K mg base CX0 1 f fd ["self", "x", "y"] (spG (rl_join C)) := by
  refine fn_g Fn scT_join (fun F vs R h => by obtain ⟨r, v, x, y, rfl, _⟩ := h; rfl) (fun cdv A outer s H E hr => ⟨_, (pss_one (ps_ret (pe_ix (ixK K) (pe_ix (ixK K) (pe_ix (ixK K) (fldK K (pv 0) rfl) pe_int (fun _ _ => rfl)) (pv 1) (fun _ _ => rfl)) (pv 2) (fun _ _ => rfl)))), ?_⟩)
  rintro F0 H0 vs R ⟨r, v, x, y, rfl, hv, sq, hx, hy, rfl⟩
  refine ⟨[IsTb C r, IsD (dI x), IsD (dI y)], rfl, three_ps hv (.int _) (.int _), ?_⟩
  exact sx_ret (ev_mu (ev_pt 1 (ev_fldR Tc (ev_var 0))) (ev_var 1) (ev_var 2) sq hx hy)
abbrev sT_takes : Stmt := inClass (topS 7) 3
abbrev nT_takes : List Str := ["self", "s", "f"]
theorem scT_takes : FnScope nT_takes ["self", "s", "f"] (defScope sT_takes) := ⟨rfl, rfl, rfl, by decide +kernel, rfl, by decide +kernel, by decide +kernel⟩
def rl_takes (C : Addr) : Hp → List V → (Hp → V → Prop) → Prop := fun F vs R => ∃ r v x y, vs = [v, vN x, vN y] ∧ IsTb C r F v ∧ R = IsD (.bool (decide ((x, y) ∈ r.A)))
theorem ok_takes {f : Addr} {fd : FuncData} (Fn : Fun K "takes" "Table.takes" sT_takes f fd) (Tc : Tt K C) : FnOk P w K mg base CX0 1 f fd ["self", "s", "f"] (spG (rl_takes C)) := by
  refine fn_g Fn scT_takes (fun F vs R h => by obtain ⟨r, v, x, y, rfl, _⟩ := h; rfl) (fun cdv A outer s H E hr => ⟨_, (pss_one (ps_ret (pe_cmp (pc_din (hu_of hr) (pe_tup (pa_cons (pv 1) (pa_cons (pv 2) pa_nil))) (fldK K (pv 0) rfl)) rfl))), ?_⟩)
  rintro F0 H0 vs R ⟨r, v, x, y, rfl, hv, rfl⟩
  refine ⟨[IsTb C r, IsD (dI x), IsD (dI y)], rfl, three_ps hv (.int _) (.int _), ?_⟩
  exact sx_ret (Ev.to (ev_finT (l := [x, y]) (ev_t2 (ev_var 1) (ev_var 2)) (ev_fldK Tc (ev_var 0))) (congrArg PyData.bool (knD_in r.A (x, y))))
abbrev sT_init : Stmt := inClass (topS 7) 0
abbrev nT_init : List Str := ["self", "reader", "pair"]
theorem scT_init : FnScope nT_init ["self", "reader"] (defScope sT_init) := ⟨rfl, rfl, rfl, by decide +kernel, rfl, by decide +kernel, by decide +kernel⟩
theorem ok_init {f : Addr} {fd : FuncData} (Fn : Fun K "__init__" "Table.__init__" sT_init f fd) (Tc : Tt K C) : FnOk P w K mg base CX0 1 f fd ["self", "reader"] (spI C) := by
  refine Fn.ok scT_init (fun vs H Q E h => ?_) (fun cdv A outer s H vs Q E hr h => ?_)
  · obtain ⟨x, dx, F, vr, r, rfl, _⟩ := h
    rfl
  · obtain ⟨x, dx, F, vr, r, rfl, hx, hF, sm, hd, hA, q⟩ := h
    refine ⟨_, (pss_cons (sfldK K (pv 0) (pv 1) rfl)
(pss_one (sfldK K (pv 0) (pe_dcT (hu := hu_of hr) (own := [("pair", 2)]) rfl scT_init.nd (itK K (pe_ix (ixK K) (pv 1) pe_int (fun _ _ => rfl))) (blkOk_by (by kernel_rfl)) (fun _ _ _ _ _ => (pgn 2 scT_init.nd)) (fun _ _ _ _ _ => pts_nil) (fun _ _ _ _ _ => (pv 2)) (fun _ _ _ _ _ => pe_bl)) rfl))), ?_⟩
    refine ⟨vr, rfl, .ref x, rfl, x, C, dx, [], rfl, hx, Tc.cl, Tc.nr, by show 0 < 1000; decide, ?_⟩
    have sm1 : Same F (upd H x (.ins C dx (putF "reader" vr []))) := fun b o e => by
      rw [upd_ne (fun y => by subst y; rw [hF] at e; cases e)]
      exact sm b o e
    have hdc : Ev none [.u, .d (dRd r), .u] (tDcT (iTup K (tOp (rIx K) (tVar 1) (tC (.int 2)))) (gName 2) tYes (tVar 2) (tC (.bl true)) (([("pair", 2)] : List (Str × Nat)).map (·.2))) (IsT (knD r.A)) :=
      ev_dcT r.A dPr (fun p => [p.1, p.2]) (ei_t (ev_pt 2 (ev_var 1))) (by omega) (by decide) fun p hp => ⟨_, tg_n, ev_var 2, ev_bl⟩
    have env : Env none F (upd H x (.ins C dx (putF "reader" vr []))) [some (.ref x), some vr, none] [.u, .d (dRd r), .u] := by
      refine ⟨rfl, fun i s h => ?_, fun i j s1 s2 l h1 h2 c1 c2 h3 h4 => ?_⟩
      · match i with
        | 0 => cases h; exact ⟨_, rfl, True.intro⟩
        | 1 => cases h; exact ⟨_, rfl, vr, rfl, fun F' e => Dt.up e _ _ hd⟩
        | 2 => cases h; exact ⟨_, rfl, True.intro⟩
        | n + 3 => cases h
      · match i with
        | 0 => cases h1; cases c1
        | 1 => cases h1; cases c1
        | 2 => cases h1; cases c1
        | n + 3 => cases h1
    have est : L2.start nT_init [V.ref x, vr] = [some (.ref x), some vr, none] := rfl
    dsimp only
    rw [est]
    unfold sFld
    dsimp only
    refine hdc F _ _ (Wf.nil sm1) env _ fun v F2 H2 s2 p2 => ?_
    obtain ⟨d, rfl, hd2⟩ := p2
    have h2x : H2 x = some (.ins C dx (putF "reader" vr [])) := s2.h _ _ (by simp) upd_same
    have f2x : F2 x = none := s2.n x hF (by rw [upd_same]; simp)
    refine ⟨.ref x, rfl, x, C, dx, _, rfl, h2x, Tc.cl, Tc.nk, by show 1 < 1000; decide, ?_⟩
    refine q F2 _ d s2.f (fun b o e => ?_) f2x (fun b o nb e => ?_) (fun b e z => s2.n b e ?_) hd2 upd_same
    · rw [upd_ne (fun y => by subst y; rw [f2x] at e; cases e)]
      exact s2.w.s b o e
    · rw [upd_ne nb]
      refine s2.h b o (by simp) ?_
      rw [upd_ne nb]
      exact e
    · by_cases nb : b = x
      · subst nb
        rw [upd_same]
        simp
      · rw [upd_ne nb]
        exact z
end
end KK
namespace KK
open PySem PySem.Spec PyProof.Rows L2
section
variable {c : Option Addr} {Γ : List Sl} {ta tb tx : TE} {C : Addr} {r : Rd} {a x y : Nat}
theorem vN_of {F : Hp} {v : V} {n : Nat} (h : IsD (dI n) F v) : v = vN n := Dt.int_eq h
theorem ev_letter (h : Ev c Γ ta (IsTb C r)) (h1 : EvD c Γ tb (dI a)) (ha : a < r.L.length) : EvD c Γ (tMeth C "letter" (spG (rl_letter C)) [] E0 ta (tCons tb tNil)) (dI (r.L.getD a 0)) :=
  ev_cm h (by decide +kernel) (by decide +kernel) (ea_1 h1) fun F v vs hv hp => by
    obtain ⟨v1, rfl, p1⟩ := all2_one hp
    rw [vN_of p1]
    exact ⟨r, v, a, rfl, hv, ha, rfl⟩
theorem ev_join (h : Ev c Γ ta (IsTb C r)) (h1 : EvD c Γ tb (dI x)) (h2 : EvD c Γ tx (dI y)) (sq : Sq r.M) (hx : x < r.M.length) (hy : y < r.M.length) : EvD c Γ (tMeth C "join" (spG (rl_join C)) [] E0 ta (tCons tb (tCons tx tNil))) (dI (mu r.M x y)) :=
  ev_cm h (by decide +kernel) (by decide +kernel) (ea_2 h1 h2) fun F v vs hv hp => by
    obtain ⟨v1, v2, rfl, p1, p2⟩ := all2_two hp
    rw [vN_of p1, vN_of p2]
    exact ⟨r, v, x, y, rfl, hv, sq, hx, hy, rfl⟩
theorem ev_takes (h : Ev c Γ ta (IsTb C r)) (h1 : EvD c Γ tb (dI x)) (h2 : EvD c Γ tx (dI y)) : EvD c Γ (tMeth C "takes" (spG (rl_takes C)) [] E0 ta (tCons tb (tCons tx tNil))) (.bool (decide ((x, y) ∈ r.A))) :=
  ev_cm h (by decide +kernel) (by decide +kernel) (ea_2 h1 h2) fun F v vs hv hp => by
    obtain ⟨v1, v2, rfl, p1, p2⟩ := all2_two hp
    rw [vN_of p1, vN_of p2]
    exact ⟨r, v, x, y, rfl, hv, rfl⟩
end
abbrev dXW (p : Wd) : PyData := .tuple [dI p.1, dLst p.2]
theorem numD_in {o : List Nat} (h : o.Nodup) (x : Nat) : (valV (numD o) (kN x)).isSome = decide (x ∈ o) := by
  rw [(numD_ok o h).2]
  by_cases m : x ∈ o
  · rw [if_pos m, decide_eq_true m]; rfl
  · rw [if_neg m, decide_eq_false m]; rfl
theorem insA_grow {o w : List Wd} {p : Wd} (h : p.1 ∉ o.map Prod.fst) : o.length < (insA o (p :: w)).length := by
  rw [insA_cons, ins, if_neg h]
  obtain ⟨e, he⟩ := insA_pre w (o ++ [p])
  rw [he, List.length_append, List.length_append, List.length_singleton]
  omega
section
variable {P : Program} {w : World} {K : PySem.W.Frag} {mg : Str → Option Value} {base : Heap} {C : Addr}
abbrev slisted : Stmt := topS 8
abbrev nlisted : List Str := ["table", "count", "found", "order", "waiting", "position", "later", "a", "x", "word", "item"]
theorem sclisted : FnScope nlisted ["table", "count"] (defScope slisted) := ⟨rfl, rfl, rfl, by decide +kernel, rfl, by decide +kernel, by decide +kernel⟩
def rl_listed (C : Addr) : Hp → List V → (Hp → V → Prop) → Prop := fun F vs R => ∃ r v, vs = [v, vN r.L.length] ∧ IsTb C r F v ∧ Ok r.L r.M ∧ R = IsD (.list ((ordL r.L r.M).map dXW))
theorem ok_listed {f : Addr} {fd : FuncData} (Fn : Fun K "listed" "listed" slisted f fd) (T : Bt mg) {tk : Tok} (hmost : mg "MOST_VALUES" = some (.int 300 tk)) (C_letter : Cm P w K mg base 1 C "letter" ["self", "a"] (spG (rl_letter C))) (C_join : Cm P w K mg base 1 C "join" ["self", "x", "y"] (spG (rl_join C))) :
    FnOk P w K mg base CX0 2 f fd ["table", "count"] (spG (rl_listed C)) := by
  refine fn_g Fn sclisted (fun F vs R h => by obtain ⟨r, v, rfl, _⟩ := h; rfl) (fun cdv A outer s H E hr => ⟨_, (pss_cons (ps_asg pe_dnewK (pgn 2 sclisted.nd))
(pss_cons (ps_asg (pe_lst pa_nil) (pgn 3 sclisted.nd))
(pss_cons (ps_setLc (i := 4) (own := [("a", 7)]) rfl sclisted.nd rfl rfl (sw_true rfl rfl rfl (by decide +kernel)) (pi_range1 (by rfl) T.range (pa_cons (pv 1) pa_nil)) (blkOk_by (by kernel_rfl)) (fun _ _ _ _ _ => (pgn 7 sclisted.nd)) (fun _ _ _ _ _ => pts_nil) (fun _ _ _ _ _ => (pe_tup (pa_cons (pe_cm C_letter (hr.mono (by decide)) (pv 0) (pa_cons (pv 7) pa_nil)) (pa_cons (pe_lst (pa_cons (pv 7) pa_nil)) pa_nil)))))
(pss_cons (ps_asg pe_int (pgn 5 sclisted.nd))
(pss_cons (ps_while PassesOwn.never (truK K (pv 4) (by intro _; rfl))
(pss_cons (ps_asg (pe_lst pa_nil) (pgn 6 sclisted.nd))
(pss_cons (ps_for PassesOwn.never rfl (ilK K (pv 4)) (tgK K (n := 2) rfl (pgs_cons (pgn 8 sclisted.nd) (pgs_cons (pgn 9 sclisted.nd) pgs_nil)))
(pss_one (ps_if (pt_cmp (pc_dnotin (hu_of hr) (pv 8) (pv 2)))
(pss_cons (ps_dput (hu_of hr) (pv 2) (pv 8) (pe_callB (lenK K) (by rfl) T.len PySem.boot_len (pa_cons (pv 3) pa_nil)) rfl)
(pss_one (ps_expr (bmK K PySem.F.plainAttrs_list PySem.F.slot_list_append PySem.F.type_list_append mt_append (pv 3) (pa_cons (pe_tup (pa_cons (pv 8) (pa_cons (pv 9) pa_nil))) pa_nil)))))
pss_nil)))
(pss_cons (ps_if (pt_cmpR op_gt (pe_callB (lenK K) (by rfl) T.len PySem.boot_len (pa_cons (pv 3) pa_nil)) (pe_glob (v := .int 300) (by rfl) hmost ⟨_, rfl⟩) (nomark _))
(pss_one ps_never)
pss_nil)
(pss_cons (ps_for PassesOwn.never rfl (ilK K (pe_slice (slK K) (pv 3) (po_some (pv 5)) po_none)) (tgK K (n := 2) rfl (pgs_cons (pgn 8 sclisted.nd) (pgs_cons (pgn 9 sclisted.nd) pgs_nil)))
(pss_one (ps_aug (i := 6) sclisted.nd rfl (by first | exact Or.inl rfl | exact Or.inr rfl) (pe_lc (own := [("a", 7)]) rfl sclisted.nd (pi_range1 (by rfl) T.range (pa_cons (pv 1) pa_nil)) (blkOk_by (by kernel_rfl)) (fun _ _ _ _ _ => (pgn 7 sclisted.nd)) (fun _ _ _ _ _ => pts_nil) (fun _ _ _ _ _ => (pe_tup (pa_cons (pe_cm C_join (hr.mono (by decide)) (pv 0) (pa_cons (pv 8) (pa_cons (pe_cm C_letter (hr.mono (by decide)) (pv 0) (pa_cons (pv 7) pa_nil)) pa_nil))) (pa_cons (pe_op op_cat (pv 9) (pe_lst (pa_cons (pv 7) pa_nil))) pa_nil))))) iop_ext)))
(pss_cons (ps_asg (pe_callB (lenK K) (by rfl) T.len PySem.boot_len (pa_cons (pv 3) pa_nil)) (pgn 5 sclisted.nd))
(pss_one (ps_setLc (i := 4) (own := [("item", 10)]) rfl sclisted.nd rfl rfl (sw_true rfl rfl rfl (by decide +kernel)) (ilK K (pv 6)) (blkOk_by (by kernel_rfl)) (fun _ _ _ _ _ => (pgn 10 sclisted.nd)) (fun _ _ _ _ _ => (pts_one (pt_cmp (pc_dnotin (hu_of hr) (pe_ix (ixK K) (pv 10) pe_int (fun _ _ => rfl)) (pv 2))))) (fun _ _ _ _ _ => (pv 10))))))))))
(pss_one (ps_ret (pv 3)))))))), ?_⟩)
  rintro F0 H0 vs R ⟨r, v, rfl, hv, ok, rfl⟩
  refine ⟨[IsTb C r, IsD (dI r.L.length)], rfl, two_ps hv (.int _), ?_⟩
  have n9 := ok.n9
  refine q_newK (q_newL ?_)
  refine q_asg (Ev.to (ev_lc0 (List.range r.L.length) dI (fun a => (r.L.getD a 0, [a])) dXW (ei_r (ev_var 1) (by omega)) (by simp; omega) (by decide) fun a ha => ⟨_, tg_n, ev_t2 (ev_letter (ev_var 0) (ev_var 7) (by simpa using ha)) (ev_l1 (ev_var 7))⟩) (e := .list ((init r.L).map dXW)) rfl) ?_
  refine q_asg (ev_n 0) ?_
  refine q_while (fun m Γ' => ∃ s6 s8 s9 o nx j kk, Γ' = [.o (IsTb C r), .d (dI r.L.length), .k (numD (o.map Prod.fst)), .l (o.map dXW), .d (.list ((nx.filter fun p => !decide (p.1 ∈ o.map Prod.fst)).map dXW)), .d (dI o.length), s6, .u, s8, s9, .u] ∧
    BI r.L r.M kk o ∧ (∀ p ∈ nx, Gw r.L r.M kk p) ∧ nx.length ≤ 36 ∧ kk + j ≤ 402 ∧ runL r.L r.M (j + 1) o nx = ordL r.L r.M ∧ 399 ≤ j + o.length ∧ m = 9 - o.length) 9
    ⟨_, _, _, [], init r.L, 399, 1, by rw [List.filter_eq_self.mpr (fun p _ => by simp)]; rfl, ⟨List.nodup_nil, fun _ z => by simp at z⟩, init_g, by simp [init]; omega, by omega, rfl, by simp, rfl⟩ ?_
  rintro m Γ' ⟨s6, s8, s9, o, nx, j, kk, rfl, bi, hnx, hnl, hkk, eq, hj, rfl⟩
  have few := bi.few ok
  refine ⟨_, et_tru (ev_var 4), fun e => ?_, fun e => ?_⟩
  · have hw : (nx.filter fun p => !decide (p.1 ∈ o.map Prod.fst)) ≠ [] := fun z => by rw [z] at e; cases e
    have e0 := insA_filter (o.map Prod.fst) nx o fun _ h => h
    have gw : ∀ p ∈ nx.filter fun p => !decide (p.1 ∈ o.map Prod.fst), Gw r.L r.M kk p := fun p hp => hnx p (List.mem_filter.mp hp).1
    have grow : o.length < (insA o nx).length := by
      rw [← e0]
      cases g : nx.filter fun p => !decide (p.1 ∈ o.map Prod.fst) with
      | nil => exact absurd g hw
      | cons p w' =>
        refine insA_grow ?_
        have hm : p ∈ nx.filter fun p => !decide (p.1 ∈ o.map Prod.fst) := by rw [g]; simp
        have := (List.mem_filter.mp hm).2
        simpa using this
    have bj := BI.insA nx bi hnx
    have fewj := bj.few ok
    generalize hwd : (nx.filter fun p => !decide (p.1 ∈ o.map Prod.fst)) = wl at gw e0 hw ⊢
    refine q_newL ?_
    refine q_for (ds := wl.map dXW) (ei_l (ev_var 4)) (fun i Γ' => ∃ s8 s9, Γ' = [.o (IsTb C r), .d (dI r.L.length), .k (numD ((insA o (wl.take i)).map Prod.fst)), .l ((insA o (wl.take i)).map dXW), .d (.list (wl.map dXW)), .d (dI o.length), .l [], .u, s8, s9, .u]) ⟨_, _, rfl⟩ ?_ ?_
    · rintro i d Γ' hd ⟨s8, s9, rfl⟩
      obtain ⟨p, hp, rfl⟩ := map_at hd
      have b2 := BI.insA (wl.take i) bi fun q hq => gw q (List.mem_of_mem_take hq)
      have f2 := b2.few ok
      have e1 : insA o (wl.take (i + 1)) = ins (insA o (wl.take i)) p := by
        rw [take_snoc hp]
        unfold insA
        rw [List.foldl_append]
        rfl
      rw [e1]
      generalize insA o (wl.take i) = oi at b2 f2 ⊢
      refine ⟨_, _, tg_2, sx_if (et_B (Ev.to (ev_dniK (ev_var 8) rfl) (by rw [numD_in b2.nd]))) (fun e2 => ?_) fun e2 => ?_⟩
      · have e2 : p.1 ∉ oi.map Prod.fst := by simpa using e2
        have e3 : ins oi p = oi ++ [p] := by rw [ins, if_neg e2]
        have e4 : (numD (oi.map Prod.fst)).length = (oi.map dXW).length := by rw [(numD_ok _ b2.nd).1, List.length_map, List.length_map]
        have e5 : (oi.map dXW).length = oi.length := List.length_map _
        rw [e3]
        refine q_putK rfl (ev_lenC 3) (ev_var 8) (by rw [e4, e5]; omega) ?_
        refine sx_one (q_app rfl (d := dXW p) (ev_t2 (ev_var 8) (ev_var 9)) (by rw [e5]; omega) (sx_next ⟨.d (dI p.1), .d (dLst p.2), ?_⟩))
        have e6 : numD ((oi ++ [p]).map Prod.fst) = putK (numD (oi.map Prod.fst)) (kN p.1) (vN (oi.map dXW).length) := by
          rw [List.map_append]
          show numD (oi.map Prod.fst ++ [p.1]) = _
          rw [numD_snoc, e4]
        rw [e6, List.map_append]
        rfl
      · have e2 : p.1 ∈ oi.map Prod.fst := by simpa using e2
        have e3 : ins oi p = oi := by rw [ins, if_pos e2]
        rw [e3]
        exact sx_next ⟨.d (dI p.1), .d (dLst p.2), rfl⟩
    · rintro Γ' ⟨s8, s9, rfl⟩
      rw [List.length_map, List.take_length, e0]
      have em : (insA o nx).map dXW = (insA o nx).map dXW := rfl
      have key := runL_two r.L r.M
      obtain ⟨j', rfl⟩ : ∃ j', j = j' + 1 := ⟨j - 1, by omega⟩
      rw [key] at eq
      generalize insA o nx = oj at bj fewj grow eq ⊢
      refine q_ifR (et_test (ev_gt (Ev.to (ev_lenC 3) (e := dI oj.length) (by rw [List.length_map])) (ev_n 300))) (fun e2 => ?_) fun _ => ?_
      · have e2 := of_decide_eq_true e2
        omega
      have lf : (oj.drop o.length).length ≤ 9 := by rw [List.length_drop]; omega
      have gf : ∀ p ∈ oj.drop o.length, Gw r.L r.M kk p := fun p hp => bj.g p (List.mem_of_mem_drop hp)
      refine q_for (ds := (oj.drop o.length).map dXW) (ei_l (Ev.to (ev_fromC (k := o.length) rfl (eo_some (ev_var 5)) eo_none) (by rw [List.map_drop]))) (fun i Γ' => ∃ s8 s9, Γ' = [.o (IsTb C r), .d (dI r.L.length), .k (numD (oj.map Prod.fst)), .l (oj.map dXW), .d (.list (wl.map dXW)), .d (dI o.length), .l ((nxt r.L r.M ((oj.drop o.length).take i)).map dXW), .u, s8, s9, .u]) ⟨_, _, rfl⟩ ?_ ?_
      · rintro i d Γ' hd ⟨s8, s9, rfl⟩
        obtain ⟨p, hp, rfl⟩ := map_at hd
        have gp := gf p (List.mem_of_getElem? hp)
        have lt : (nxt r.L r.M ((oj.drop o.length).take i)).length ≤ 9 * 4 := by
          rw [nxt_len]
          refine Nat.mul_le_mul ?_ ok.n9
          rw [List.length_take]
          omega
        have e1 : nxt r.L r.M ((oj.drop o.length).take (i + 1)) = nxt r.L r.M ((oj.drop o.length).take i) ++ (List.range r.L.length).map fun a => (mu r.M p.1 (r.L.getD a 0), p.2 ++ [a]) := by
          rw [take_snoc hp]
          unfold nxt
          rw [List.flatMap_append]
          simp
        rw [e1]
        have hlw := gp.2.2.2
        refine ⟨_, _, tg_2, sx_one (q_ext rfl (ev_lc0 (List.range r.L.length) dI (fun a => (mu r.M p.1 (r.L.getD a 0), p.2 ++ [a])) dXW (ei_r (ev_var 1) (by omega)) (by simp; omega) (by decide) fun a ha => ⟨_, tg_n, ?_⟩) (by simp; omega) (sx_next ⟨.d (dI p.1), .d (dLst p.2), ?_⟩))⟩
        · have ha : a < r.L.length := by simpa using ha
          exact ev_t2 (ev_join (ev_var 0) (ev_var 8) (ev_letter (ev_var 0) (ev_var 7) ha) ok.sq (gp.lt ok) (ok.at ha)) (Ev.to (ev_cat (ev_var 9) (ev_l1 (ev_var 7)) (by simp; omega)) (by simp))
        · rw [List.map_append]
          rfl
      · rintro Γ' ⟨s8, s9, rfl⟩
        rw [List.length_map, List.take_length]
        have hn2 := nxt_g gf
        have ln2 : (nxt r.L r.M (oj.drop o.length)).length ≤ 36 := by
          rw [nxt_len]
          exact Nat.mul_le_mul lf ok.n9
        refine q_asg (Ev.to (ev_lenC 3) (e := dI oj.length) (by rw [List.length_map])) ?_
        refine q_frz 6 (sx_one (q_asg (ev_lc (nxt r.L r.M (oj.drop o.length)) dXW id dXW (fun p => !decide (p.1 ∈ oj.map Prod.fst)) (ei_l (ev_var 6)) (by omega) (by decide) fun p hp => ⟨_, tg_n, et_B (Ev.to (ev_dniK (ev_pt 0 (ev_var 10)) rfl) (by rw [numD_in bj.nd])), fun _ => ev_var 10⟩) (sx_next ?_)))
        rw [List.map_id]
        exact ⟨9 - oj.length, by omega, _, _, _, oj, nxt r.L r.M (oj.drop o.length), j', kk + 1, rfl, bj.mono (Nat.le_succ _), hn2, ln2, by omega, eq, by omega, rfl⟩
  · have hw : (nx.filter fun p => !decide (p.1 ∈ o.map Prod.fst)) = [] := by
      cases g : nx.filter fun p => !decide (p.1 ∈ o.map Prod.fst) with
      | nil => rfl
      | cons p w' => rw [g] at e; cases e
    have e0 := insA_filter (o.map Prod.fst) nx o fun _ h => h
    rw [hw] at e0
    have e1 := runL_end r.L r.M j o nx e0.symm
    rw [eq] at e1
    refine q_frz 3 (sx_ret (Ev.to (ev_var 3) ?_))
    rw [e1]
end
end KK
namespace KK
open PySem PySem.Spec PyProof.Rows L2
/-! ### the program: a reader made anew -/
def zipD (o : List Nat) : List (L2.Key × V) := o.zipIdx.foldl (fun acc q => putK acc (kN q.1) (vN q.2)) []
theorem zipD_eq : ∀ (n : Nat) (o : List Nat), o.length = n → o.Nodup → zipD o = numD o
  | 0, o, hl, _ => by
    have : o = [] := List.length_eq_zero_iff.mp hl
    subst this
    rfl
  | n + 1, o, hl, hn => by
    have hne : o ≠ [] := fun z => by rw [z] at hl; cases hl
    obtain ⟨p, y, rfl⟩ : ∃ p y, o = p ++ [y] := ⟨o.dropLast, o.getLast hne, (List.dropLast_concat_getLast hne).symm⟩
    have hp : p.length = n := by simpa using hl
    rw [List.nodup_append] at hn
    have ih := zipD_eq n p hp hn.1
    rw [numD_snoc, ← ih]
    have e : (p ++ [y]).zipIdx = p.zipIdx ++ [(y, p.length)] := by rw [List.zipIdx_append]; simp
    have hd : (zipD p).length = p.length := by rw [ih]; exact (numD_ok p hn.1).1
    unfold zipD at hd ⊢
    rw [e, List.foldl_append, hd]
    rfl
theorem zipD_ok {o : List Nat} (h : o.Nodup) (x : Nat) (hx : x ∈ o) : valV (zipD o) (kN x) = some (vN (num o x)) := by
  rw [zipD_eq _ o rfl h, (numD_ok o h).2, if_pos hx]
theorem map_range {α : Type} (f : Nat → α) (l : List Nat) : (List.range l.length).map (fun i => f (l.getD i 0)) = l.map f := by
  apply List.ext_getElem?
  intro i
  by_cases h : i < l.length
  · rw [List.getElem?_map, List.getElem?_range h, List.getElem?_map]
    show some (f (l.getD i 0)) = _
    rw [List.getD_eq_getElem?_getD, List.getElem?_eq_getElem h]
    rfl
  · rw [List.getElem?_eq_none (by simp; omega), List.getElem?_eq_none (by simp; omega)]
theorem zi_get {α : Type} {l : List α} {i : Nat} {q : α × Nat} (h : l.zipIdx[i]? = some q) : q.2 = i ∧ l[i]? = some q.1 := by
  rw [List.getElem?_zipIdx] at h
  cases g : l[i]? with
  | none => rw [g] at h; cases h
  | some x => rw [g] at h; simp at h; subst h; exact ⟨rfl, rfl⟩
theorem zi_mem {α : Type} {l : List α} {q : α × Nat} (h : q ∈ l.zipIdx) : q.2 < l.length ∧ l[q.2]? = some q.1 := by
  obtain ⟨i, hi⟩ := List.getElem?_of_mem h
  obtain ⟨e1, e2⟩ := zi_get hi
  subst e1
  exact ⟨(List.getElem?_eq_some_iff.mp e2).1, e2⟩
theorem tidyO_len (o : List Nat) (r : Rd) : (tidyO o r).M.length = o.length := List.length_map _
theorem tidyO_sq {o : List Nat} {r : Rd} (cm : ∀ x ∈ o, ∀ y ∈ o, mu r.M x y ∈ o) : Sq (tidyO o r).M := fun row h => by
  obtain ⟨x, hx, rfl⟩ := List.mem_map.mp h
  rw [tidyO_len]
  refine ⟨List.length_map _, fun z hz => ?_⟩
  obtain ⟨y, hy, rfl⟩ := List.mem_map.mp hz
  exact num_lt (cm x hx y hy)
def accS (o : List Nat) (r : Rd) (q : Nat × Nat) : List (Nat × Nat) := (o.zipIdx.filter fun q' => (decide (mu (tidyO o r).M q.2 q'.2 = q.2) && decide (mu (tidyO o r).M q'.2 q'.2 = q'.2)) && decide ((q.1, q'.1) ∈ r.A)).map fun q' => (q.2, q'.2)
theorem accS_len (o : List Nat) (r : Rd) (q : Nat × Nat) : (accS o r q).length ≤ o.length := by
  unfold accS
  rw [List.length_map]
  exact Nat.le_trans (List.length_filter_le _ _) (by rw [List.length_zipIdx]; exact Nat.le_refl _)
theorem accP_take_len (o : List Nat) (r : Rd) (i : Nat) : ((o.zipIdx.take i).flatMap (accS o r)).length ≤ o.length * o.length := by
  refine Nat.le_trans (flat_len _ fun q _ => accS_len o r q) (Nat.mul_le_mul_right _ ?_)
  rw [List.length_take, List.length_zipIdx]
  omega
theorem accP_len (o : List Nat) (r : Rd) : (accP o r).length ≤ o.length * o.length := by
  have h := accP_take_len o r o.length
  rw [List.take_of_length_le (by rw [List.length_zipIdx]; exact Nat.le_refl _)] at h
  exact h
section
variable {P : Program} {w : World} {K : PySem.W.Frag} {mg : Str → Option Value} {base : Heap} {C : Addr}
abbrev smade_reader : Stmt := topS 10
abbrev nmade_reader : List Str := ["table", "count", "found", "order", "numbers", "letters", "right", "mul", "plain", "accepted", "s", "x", "_", "number", "a", "f", "y", "word"]
theorem scmade_reader : FnScope nmade_reader ["table", "count"] (defScope smade_reader) := ⟨rfl, rfl, rfl, by decide +kernel, rfl, by decide +kernel, by decide +kernel⟩
def rl_made (C : Addr) : Hp → List V → (Hp → V → Prop) → Prop := fun F vs R => ∃ r v, vs = [v, vN r.L.length] ∧ IsTb C r F v ∧ Ok r.L r.M ∧ OrdOk r.L r.M ∧ R = IsD (dRd (tidyP r))
theorem ok_made_reader {f : Addr} {fd : FuncData} (Fn : Fun K "made_reader" "made_reader" smade_reader f fd) (T : Bt mg) (C_letter : Cm P w K mg base 1 C "letter" ["self", "a"] (spG (rl_letter C))) (C_join : Cm P w K mg base 1 C "join" ["self", "x", "y"] (spG (rl_join C)))
    (C_takes : Cm P w K mg base 1 C "takes" ["self", "s", "f"] (spG (rl_takes C))) (Clisted : Cl P w K mg base 2 "listed" ["table", "count"] (spG (rl_listed C))) (Cis_linked : Cl P w K mg base 1 "is_linked" ["reader", "first", "second"] (spD fs_is_linked))
    (Cproduct_row : Cl P w K mg base 1 "product_row" ["number", "right", "words"] (spD fs_prow)) :
    FnOk P w K mg base CX0 3 f fd ["table", "count"] (spG (rl_made C)) := by
  refine fn_g Fn scmade_reader (fun F vs R h => by obtain ⟨r, v, rfl, _⟩ := h; rfl) (fun cdv A outer s H E hr => ⟨_, (pss_cons (ps_asg (pe_c Clisted (hr.mono (by decide)) (pa_cons (pv 0) (pa_cons (pv 1) pa_nil))) (pgn 2 scmade_reader.nd))
(pss_cons (ps_setLc (i := 3) (own := [("x", 11), ("_", 12)]) rfl scmade_reader.nd rfl rfl (sw_true rfl rfl rfl (by decide +kernel)) (ilK K (pv 2)) (blkOk_by (by kernel_rfl)) (fun _ _ _ _ _ => (tgK K (n := 2) rfl (pgs_cons (pgn 11 scmade_reader.nd) (pgs_cons (pgn 12 scmade_reader.nd) pgs_nil)))) (fun _ _ _ _ _ => pts_nil) (fun _ _ _ _ _ => (pv 11)))
(pss_cons (ps_asg (pe_dc (own := [("number", 13), ("x", 11)]) rfl scmade_reader.nd (ienK K (by rfl) T.enumerate (pa_cons (pv 3) pa_nil)) (blkOk_by (by kernel_rfl)) (fun _ _ _ _ _ => (tgK K (n := 2) rfl (pgs_cons (pgn 13 scmade_reader.nd) (pgs_cons (pgn 11 scmade_reader.nd) pgs_nil)))) (fun _ _ _ _ _ => pts_nil) (fun _ _ _ _ _ => (pv 11)) (fun _ _ _ _ _ => (pv 13))) (pgn 4 scmade_reader.nd))
(pss_cons (ps_asg (pe_callTy (tupleK K) (by rfl) T.tuple (by decide +kernel) (pa_cons (pe_lc (own := [("a", 14)]) rfl scmade_reader.nd (pi_range1 (by rfl) T.range (pa_cons (pv 1) pa_nil)) (blkOk_by (by kernel_rfl)) (fun _ _ _ _ _ => (pgn 14 scmade_reader.nd)) (fun _ _ _ _ _ => pts_nil) (fun _ _ _ _ _ => (pe_dget (hu_of hr) (pv 4) (pe_cm C_letter (hr.mono (by decide)) (pv 0) (pa_cons (pv 14) pa_nil)) (fun _ _ => rfl)))) pa_nil)) (pgn 5 scmade_reader.nd))
(pss_cons (ps_asg (pe_lc (own := [("x", 11)]) rfl scmade_reader.nd (ilK K (pv 3)) (blkOk_by (by kernel_rfl)) (fun _ _ _ _ _ => (pgn 11 scmade_reader.nd)) (fun _ _ _ _ _ => pts_nil) (fun _ _ _ _ _ => (pe_lc (own := [("a", 14)]) rfl scmade_reader.nd (pi_range1 (by rfl) T.range (pa_cons (pv 1) pa_nil)) (blkOk_by (by kernel_rfl)) (fun _ _ _ _ _ => (pgn 14 scmade_reader.nd)) (fun _ _ _ _ _ => pts_nil) (fun _ _ _ _ _ => (pe_dget (hu_of hr) (pv 4) (pe_cm C_join (hr.mono (by decide)) (pv 0) (pa_cons (pv 11) (pa_cons (pe_cm C_letter (hr.mono (by decide)) (pv 0) (pa_cons (pv 14) pa_nil)) pa_nil))) (fun _ _ => rfl)))))) (pgn 6 scmade_reader.nd))
(pss_cons (ps_asg (pe_callTy (tupleK K) (by rfl) T.tuple (by decide +kernel) (pa_cons (pe_lc (own := [("number", 13)]) rfl scmade_reader.nd (pi_range1 (by rfl) T.range (pa_cons (pe_callB (lenK K) (by rfl) T.len PySem.boot_len (pa_cons (pv 3) pa_nil)) pa_nil)) (blkOk_by (by kernel_rfl)) (fun _ _ _ _ _ => (pgn 13 scmade_reader.nd)) (fun _ _ _ _ _ => pts_nil) (fun _ _ _ _ _ => (pe_c Cproduct_row (hr.mono (by decide)) (pa_cons (pv 13) (pa_cons (pv 6) (pa_cons (pe_lc (own := [("_", 12), ("word", 17)]) rfl scmade_reader.nd (ilK K (pv 2)) (blkOk_by (by kernel_rfl)) (fun _ _ _ _ _ => (tgK K (n := 2) rfl (pgs_cons (pgn 12 scmade_reader.nd) (pgs_cons (pgn 17 scmade_reader.nd) pgs_nil)))) (fun _ _ _ _ _ => pts_nil) (fun _ _ _ _ _ => (pv 17))) pa_nil)))))) pa_nil)) (pgn 7 scmade_reader.nd))
(pss_cons (ps_asg (pe_tup (pa_cons (pv 5) (pa_cons (pv 7) (pa_cons (pe_tup pa_nil) pa_nil)))) (pgn 8 scmade_reader.nd))
(pss_cons (ps_asg (pe_lst pa_nil) (pgn 9 scmade_reader.nd))
(pss_cons (ps_for PassesOwn.never rfl (ienK K (by rfl) T.enumerate (pa_cons (pv 3) pa_nil)) (tgK K (n := 2) rfl (pgs_cons (pgn 10 scmade_reader.nd) (pgs_cons (pgn 11 scmade_reader.nd) pgs_nil)))
(pss_one (ps_aug (i := 9) scmade_reader.nd rfl (by first | exact Or.inl rfl | exact Or.inr rfl) (pe_lc (own := [("f", 15), ("y", 16)]) rfl scmade_reader.nd (ienK K (by rfl) T.enumerate (pa_cons (pv 3) pa_nil)) (blkOk_by (by kernel_rfl)) (fun _ _ _ _ _ => (tgK K (n := 2) rfl (pgs_cons (pgn 15 scmade_reader.nd) (pgs_cons (pgn 16 scmade_reader.nd) pgs_nil)))) (fun _ _ _ _ _ => (pts_one (PW.pt (pw_and (pt_val (pe_c Cis_linked (hr.mono (by decide)) (pa_cons (pv 8) (pa_cons (pv 10) (pa_cons (pv 15) pa_nil))))) (pw_and1 (pt_val (pe_cm C_takes (hr.mono (by decide)) (pv 0) (pa_cons (pv 11) (pa_cons (pv 16) pa_nil))))))))) (fun _ _ _ _ _ => (pe_tup (pa_cons (pv 10) (pa_cons (pv 15) pa_nil))))) iop_ext)))
(pss_one (ps_ret (pe_tup (pa_cons (pv 5) (pa_cons (pv 7) (pa_cons (pe_callTy (tupleK K) (by rfl) T.tuple (by decide +kernel) (pa_cons (pv 9) pa_nil)) pa_nil))))))))))))))), ?_⟩)
  rintro F0 H0 vs R ⟨r, v, rfl, hv, ok, oo, rfl⟩
  refine ⟨[IsTb C r, IsD (dI r.L.length)], rfl, two_ps hv (.int _), ?_⟩
  have n9 := ok.n9
  have few := oo.bi.few ok
  have hol : (ordV r.L r.M).length = (ordL r.L r.M).length := by unfold ordV; rw [List.length_map]
  have hzi : (ordV r.L r.M).zipIdx.length = (ordL r.L r.M).length := by rw [List.length_zipIdx, hol]
  have olt : ∀ x ∈ ordV r.L r.M, x < r.M.length := fun x hx => by
    obtain ⟨p, hp, rfl⟩ := List.mem_map.mp hx
    exact (oo.bi.g p hp).lt ok
  have hD : ∀ x ∈ ordV r.L r.M, valV (zipD (ordV r.L r.M)) (kN x) = some (vN (num (ordV r.L r.M) x)) := fun x hx => zipD_ok oo.bi.nd x hx
  have hLa : ∀ {a : Nat}, a < r.L.length → r.L.getD a 0 ∈ ordV r.L r.M := fun ha => oo.cl _ (getD_mem ha)
  refine q_asgM (P := IsD (.list ((ordL r.L r.M).map dXW))) (ev_callG (ea_2 (ev_var 0) (ev_var 1)) fun F vs p => ?_) ?_
  · obtain ⟨v1, v2, rfl, p1, p2⟩ := all2_two p
    rw [vN_of p2]
    exact ⟨r, v1, rfl, p1, ok, rfl⟩
  refine q_asg (Ev.to (ev_lc0 (ordL r.L r.M) dXW Prod.fst dI (ei_l (ev_var 2)) (by omega) (by decide) fun p hp => ⟨_, tg_2, ev_var 11⟩) (e := dLst (ordV r.L r.M)) rfl) ?_
  refine q_asgM (P := IsK (zipD (ordV r.L r.M))) (ev_dcK (ordV r.L r.M).zipIdx (fun q => .tuple [dI q.2, dI q.1]) Prod.fst Prod.snd (ei_enum (ev_var 3)) (by omega) (by decide) fun q hq => ⟨_, tg_2, ev_var 11, ev_var 13⟩) ?_
  refine q_asg (Ev.to (ev_tuL (ev_lc0 (List.range r.L.length) dI (fun a => num (ordV r.L r.M) (r.L.getD a 0)) dI (ei_r (ev_var 1) (by omega)) (by simp; omega) (by decide) fun a ha => ⟨_, tg_n, ?_⟩)) (e := dRow (tidyO (ordV r.L r.M) r).L) ?_) ?_
  · have ha : a < r.L.length := by simpa using ha
    exact ev_fgetK (ev_var 4) (ev_letter (ev_var 0) (ev_var 14) ha) (hD _ (hLa ha))
  · rw [map_range (num (ordV r.L r.M)) r.L]
    rfl
  refine q_asg (Ev.to (ev_lc0 (ordV r.L r.M) dI (fun x => (List.range r.L.length).map fun a => num (ordV r.L r.M) (mu r.M x (r.L.getD a 0))) dLst (ei_l (ev_var 3)) (by omega) (by decide) fun x hx => ⟨_, tg_n, Ev.to (ev_lc0 (List.range r.L.length) dI (fun a => num (ordV r.L r.M) (mu r.M x (r.L.getD a 0))) dI (ei_r (ev_var 1) (by omega)) (by simp; omega) (by decide) fun a ha => ⟨_, tg_n, ?_⟩) rfl⟩) (e := .list ((rtM (ordV r.L r.M) r.L r.M).map dLst)) rfl) ?_
  · have ha : a < r.L.length := by simpa using ha
    exact ev_fgetK (ev_var 4) (ev_join (ev_var 0) (ev_var 11) (ev_letter (ev_var 0) (ev_var 14) ha) ok.sq (olt x hx) (ok.at ha)) (hD _ (oo.cm x hx _ (hLa ha)))
  refine q_asg (Ev.to (ev_tuL (ev_lc0 (List.range (ordV r.L r.M).length) dI (fun s => (ordV r.L r.M).map fun y => num (ordV r.L r.M) (mu r.M ((ordV r.L r.M).getD s 0) y)) dRow (ei_r (Ev.to (ev_lenL (ev_var 3)) (by rw [List.length_map])) (by omega)) (by simp; omega) (by decide) fun s hs => ⟨_, tg_n, ?_⟩)) (e := dMat (tidyO (ordV r.L r.M) r).M) ?_) ?_
  · have hs : s < (ordV r.L r.M).length := by simpa using hs
    refine ev_call3 (ev_var 13) (ev_var 6) (Ev.to (ev_lc0 (ordL r.L r.M) dXW Prod.snd dLst (ei_l (ev_var 2)) (by omega) (by decide) fun p hp => ⟨_, tg_2, ev_var 17⟩) rfl) ⟨r.L, r.M, s, rfl, ok, oo, hs, rfl⟩
  · rw [map_range (fun x => (ordV r.L r.M).map fun y => num (ordV r.L r.M) (mu r.M x y)) (ordV r.L r.M)]
    rfl
  refine q_asg (ev_t3 (ev_var 5) (ev_var 7) ev_t0) ?_
  refine q_newL ?_
  have sq := tidyO_sq (r := r) oo.cm
  have hml := tidyO_len (ordV r.L r.M) r
  refine q_for (ei_enum (ev_var 3)) (fun i Γ' => ∃ s10 s11, Γ' = [.o (IsTb C r), .d (dI r.L.length), .d (.list ((ordL r.L r.M).map dXW)), .d (dLst (ordV r.L r.M)), .o (IsK (zipD (ordV r.L r.M))), .d (dRow (tidyO (ordV r.L r.M) r).L), .d (.list ((rtM (ordV r.L r.M) r.L r.M).map dLst)), .d (dMat (tidyO (ordV r.L r.M) r).M),
      .d (.tuple [dRow (tidyO (ordV r.L r.M) r).L, dMat (tidyO (ordV r.L r.M) r).M, .tuple []]), .l ((((ordV r.L r.M).zipIdx.take i).flatMap (accS (ordV r.L r.M) r)).map dPr), s10, s11, .u, .u, .u, .u, .u, .u]) ⟨_, _, rfl⟩ ?_ ?_
  · rintro i d Γ' hd ⟨s10, s11, rfl⟩
    obtain ⟨q, hq, rfl⟩ := map_at hd
    have hqm := zi_mem (List.mem_of_getElem? hq)
    have hl1 := accP_take_len (ordV r.L r.M) r i
    have hl2 := accS_len (ordV r.L r.M) r q
    have h81 : (ordV r.L r.M).length * (ordV r.L r.M).length ≤ 9 * 9 := Nat.mul_le_mul (by omega) (by omega)
    rw [take_snoc hq, List.flatMap_append]
    generalize ((ordV r.L r.M).zipIdx.take i).flatMap (accS (ordV r.L r.M) r) = acc at hl1 ⊢
    refine ⟨_, _, tg_2, sx_one (q_ext rfl (ev_lc (ordV r.L r.M).zipIdx (fun q => .tuple [dI q.2, dI q.1]) (fun q' => (q.2, q'.2)) dPr (fun q' => (decide (mu (tidyO (ordV r.L r.M) r).M q.2 q'.2 = q.2) && decide (mu (tidyO (ordV r.L r.M) r).M q'.2 q'.2 = q'.2)) && decide ((q.1, q'.1) ∈ r.A)) (ei_enum (ev_var 3)) (by omega) (by decide) fun q' hq' => ⟨_, tg_2, ?_, fun _ => ev_t2 (ev_var 10) (ev_var 15)⟩) ?_ (sx_next ⟨.d (dI q.2), .d (dI q.1), ?_⟩))⟩
    · have hqm' := zi_mem hq'
      exact et_and (et_B (ev_call3 (d1 := .tuple [dRow (tidyO (ordV r.L r.M) r).L, dMat (tidyO (ordV r.L r.M) r).M, .tuple []]) (d2 := dI q.2) (d3 := dI q'.2) (ev_var 8) (ev_var 10) (ev_var 15) (by unfold fs_is_linked; exact ⟨_, _, (tidyO (ordV r.L r.M) r).M, q.2, q'.2, rfl, sq, by omega, by omega, rfl⟩))) fun _ => et_B (ev_takes (ev_var 0) (ev_var 11) (ev_var 16))
    · have e : (((ordV r.L r.M).zipIdx.filter fun q' => (decide (mu (tidyO (ordV r.L r.M) r).M q.2 q'.2 = q.2) && decide (mu (tidyO (ordV r.L r.M) r).M q'.2 q'.2 = q'.2)) && decide ((q.1, q'.1) ∈ r.A)).map fun q' => (q.2, q'.2)) = accS (ordV r.L r.M) r q := rfl
      rw [e, List.length_map, List.length_map]
      omega
    · rw [List.map_append]
      have e : [q].flatMap (accS (ordV r.L r.M) r) = accS (ordV r.L r.M) r q := by simp
      rw [e]
      rfl
  · rintro Γ' ⟨s10, s11, rfl⟩
    rw [List.length_map, List.take_length]
    exact sx_ret (ev_t3 (ev_var 5) (ev_var 7) (ev_tuC 9))
abbrev stidy : Stmt := topS 11
abbrev ntidy : List Str := ["reader"]
theorem sctidy : FnScope ntidy ["reader"] (defScope stidy) := ⟨rfl, rfl, rfl, by decide +kernel, rfl, by decide +kernel, by decide +kernel⟩
def fs_tidy : List PyData → (Hp → V → Prop) → Prop := fun ds R => ∃ r, ds = [dRd r] ∧ Ok r.L r.M ∧ OrdOk r.L r.M ∧ r.A.length ≤ 81 ∧ R = IsD (dRd (tidyP r))
theorem ok_tidy {f : Addr} {fd : FuncData} (Fn : Fun K "tidy" "tidy" stidy f fd) (T : Bt mg) (C_Table : Ck P w K mg base 1 C "Table" ["self", "reader"] (spI C)) (Cmade_reader : Cl P w K mg base 3 "made_reader" ["table", "count"] (spG (rl_made C))) :
    FnOk P w K mg base CX0 4 f fd ["reader"] (spD fs_tidy) := by
  refine fn_d Fn sctidy (fun ds R h => by obtain ⟨r, rfl, _⟩ := h; rfl) (fun cdv A outer s H E hr => ⟨_, (pss_one (ps_ret (pe_c Cmade_reader (hr.mono (by decide)) (pa_cons (pe_cmk C_Table (hr.mono (by decide)) (pa_cons (pv 0) pa_nil)) (pa_cons (pe_callB (lenK K) (by rfl) T.len PySem.boot_len (pa_cons (pe_ix (ixK K) (pv 0) pe_int (fun _ _ => rfl)) pa_nil)) pa_nil))))), ?_⟩)
  rintro F0 H0 ds R ⟨r, rfl, ok, oo, hA, rfl⟩
  refine sx_ret (ev_callG (ea_2 (ev_mkT (ev_var 0) hA) (Ev.to (ev_lenT (ev_pt 0 (ev_var 0))) (e := dI r.L.length) (by rw [List.length_map]))) fun F vs p => ?_)
  obtain ⟨v1, v2, rfl, p1, p2⟩ := all2_two p
  rw [vN_of p2]
  exact ⟨r, v1, rfl, p1, ok, oo, rfl⟩
abbrev sacceptor_of : Stmt := topS 13
abbrev nacceptor_of : List Str := ["reader", "small", "many", "states", "gates", "steps", "letters", "mul", "accepted", "a", "x", "k", "_", "f"]
theorem scacceptor_of : FnScope nacceptor_of ["reader"] (defScope sacceptor_of) := ⟨rfl, rfl, rfl, by decide +kernel, rfl, by decide +kernel, by decide +kernel⟩
def fs_acc : List PyData → (Hp → V → Prop) → Prop := fun ds R => ∃ r, ds = [dRd r] ∧ Ok r.L r.M ∧ OrdOk r.L r.M ∧ r.A.length ≤ 81 ∧ R = IsD (dAc (acM r))
theorem gates_at {t : Rd} {q : (Nat × Nat) × Nat} (h : q ∈ t.A.zipIdx) : q.2 < (gatesM t).length := by
  have := (zi_mem h).1
  unfold gatesM
  rw [List.length_map, List.length_range]
  exact this
theorem ok_acceptor_of {f : Addr} {fd : FuncData} (Fn : Fun K "acceptor_of" "acceptor_of" sacceptor_of f fd) (T : Bt mg) (Ctidy : Cl P w K mg base 4 "tidy" ["reader"] (spD fs_tidy)) (Cbeginning_steps : Cl P w K mg base 1 "beginning_steps" ["a", "x", "mul", "accepted", "gates"] (spD fs_beg))
    (Cround_steps : Cl P w K mg base 1 "round_steps" ["a", "x", "mul", "f", "gate"] (spD fs_rnd)) : FnOk P w K mg base CX0 5 f fd ["reader"] (spD fs_acc) := by
  refine fn_d Fn scacceptor_of (fun ds R h => by obtain ⟨r, rfl, _⟩ := h; rfl) (fun cdv A outer s H E hr => ⟨_, (pss_cons (ps_asg (pe_c Ctidy (hr.mono (by decide)) (pa_cons (pv 0) pa_nil)) (pgn 1 scacceptor_of.nd))
(pss_cons (ps_asg (pv 1) (tgK K (n := 3) rfl (pgs_cons (pgn 6 scacceptor_of.nd) (pgs_cons (pgn 7 scacceptor_of.nd) (pgs_cons (pgn 8 scacceptor_of.nd) pgs_nil)))))
(pss_cons (ps_asg (pe_callB (lenK K) (by rfl) T.len PySem.boot_len (pa_cons (pv 7) pa_nil)) (pgn 2 scacceptor_of.nd))
(pss_cons (ps_asg (pe_op op_add (pe_op op_add pe_int (pv 2)) (pe_op op_mul (pe_callB (lenK K) (by rfl) T.len PySem.boot_len (pa_cons (pv 8) pa_nil)) (pe_op op_add (pv 2) pe_int))) (pgn 3 scacceptor_of.nd))
(pss_cons (ps_asg (pe_callTy (tupleK K) (by rfl) T.tuple (by decide +kernel) (pa_cons (pe_lc (own := [("k", 11)]) rfl scacceptor_of.nd (pi_range1 (by rfl) T.range (pa_cons (pe_callB (lenK K) (by rfl) T.len PySem.boot_len (pa_cons (pv 8) pa_nil)) pa_nil)) (blkOk_by (by kernel_rfl)) (fun _ _ _ _ _ => (pgn 11 scacceptor_of.nd)) (fun _ _ _ _ _ => pts_nil) (fun _ _ _ _ _ => (pe_op op_add (pe_op op_add pe_int (pv 2)) (pe_op op_mul (pv 11) (pe_op op_add (pv 2) pe_int))))) pa_nil)) (pgn 4 scacceptor_of.nd))
(pss_cons (ps_asg (pe_lst pa_nil) (pgn 5 scacceptor_of.nd))
(pss_cons (ps_for PassesOwn.never rfl (ietK K (by rfl) T.enumerate (pa_cons (pv 6) pa_nil)) (tgK K (n := 2) rfl (pgs_cons (pgn 9 scacceptor_of.nd) (pgs_cons (pgn 10 scacceptor_of.nd) pgs_nil)))
(pss_cons (ps_aug (i := 5) scacceptor_of.nd rfl (by first | exact Or.inl rfl | exact Or.inr rfl) (pe_c Cbeginning_steps (hr.mono (by decide)) (pa_cons (pv 9) (pa_cons (pv 10) (pa_cons (pv 7) (pa_cons (pv 8) (pa_cons (pv 4) pa_nil)))))) iop_ext)
(pss_one (ps_for PassesOwn.never rfl (ietK K (by rfl) T.enumerate (pa_cons (pv 8) pa_nil)) (tgK K (n := 2) rfl (pgs_cons (pgn 11 scacceptor_of.nd) (pgs_cons (tgK K (n := 2) rfl (pgs_cons (pgn 12 scacceptor_of.nd) (pgs_cons (pgn 13 scacceptor_of.nd) pgs_nil))) pgs_nil)))
(pss_one (ps_aug (i := 5) scacceptor_of.nd rfl (by first | exact Or.inl rfl | exact Or.inr rfl) (pe_c Cround_steps (hr.mono (by decide)) (pa_cons (pv 9) (pa_cons (pv 10) (pa_cons (pv 7) (pa_cons (pv 13) (pa_cons (pe_ix (ixK K) (pv 4) (pv 11) (fun _ _ => rfl)) pa_nil)))))) iop_ext))))))
(pss_one (ps_ret (pe_tup (pa_cons (pe_callB (lenK K) (by rfl) T.len PySem.boot_len (pa_cons (pv 6) pa_nil)) (pa_cons (pv 3) (pa_cons (pe_tup (pa_cons pe_int pa_nil)) (pa_cons (pe_callTy (tupleK K) (by rfl) T.tuple (by decide +kernel) (pa_cons (pe_callB (sortK K (hu64 hr)) (by rfl) T.sorted (by decide +kernel) (pa_cons (pv 5) pa_nil)) pa_nil)) (pa_cons (pv 4) pa_nil))))))))))))))), ?_⟩)
  rintro F0 H0 ds R ⟨r, rfl, ok, oo, hA, rfl⟩
  refine q_asgM (ev_call1 (ev_var 0) ⟨r, rfl, ok, oo, hA, rfl⟩) ?_
  have few := oo.bi.few ok
  have hol : (ordV r.L r.M).length = (ordL r.L r.M).length := by unfold ordV; rw [List.length_map]
  have sq : Sq (tidyP r).M := tidyO_sq (r := r) oo.cm
  have hm : (tidyP r).M.length ≤ 9 := by
    have := tidyO_len (ordV r.L r.M) r
    show (tidyO (ordV r.L r.M) r).M.length ≤ 9
    omega
  have hn : (tidyP r).L.length ≤ 4 := by
    show (r.L.map (num (ordV r.L r.M))).length ≤ 4
    rw [List.length_map]
    exact ok.n9
  have hL : ∀ x ∈ (tidyP r).L, x < (tidyP r).M.length := fun x hx => by
    obtain ⟨y, hy, rfl⟩ := List.mem_map.mp hx
    show _ < (tidyO (ordV r.L r.M) r).M.length
    rw [tidyO_len]
    exact num_lt (oo.cl y hy)
  have hPA : (tidyP r).A.length ≤ 81 := by
    have h := accP_len (ordV r.L r.M) r
    have h81 : (ordV r.L r.M).length * (ordV r.L r.M).length ≤ 9 * 9 := Nat.mul_le_mul (by omega) (by omega)
    show (accP (ordV r.L r.M) r).length ≤ 81
    omega
  have eR : IsD (dAc (acM r)) = IsD (dAc (accM (tidyP r) (pAll (tidyP r)))) := rfl
  rw [eR]
  generalize tidyP r = t at sq hm hn hL hPA ⊢
  refine q_unp (ev_var 1) tg_3 ?_
  have hmul : t.M.length + 1 < 2 ^ 64 := by omega
  refine q_asg (Ev.to (ev_lenT (ev_var 7)) (e := dI t.M.length) (by rw [List.length_map])) ?_
  refine q_asg (d := dI (1 + t.M.length + t.A.length * (t.M.length + 1))) (ev_add (ev_add (ev_n 1) (ev_var 2)) (ev_mul (Ev.to (ev_lenT (ev_var 8)) (e := dI t.A.length) (by rw [List.length_map])) (ev_add (ev_var 2) (ev_n 1)) hmul)) ?_
  refine q_asg (Ev.to (ev_tuL (ev_lc0 (List.range t.A.length) dI (gateM t.M.length) dI (ei_r (Ev.to (ev_lenT (ev_var 8)) (e := dI t.A.length) (by rw [List.length_map])) (by omega)) (by simp; omega) (by decide) fun k hk => ⟨_, tg_n, ev_add (ev_add (ev_n 1) (ev_var 2)) (ev_mul (ev_var 11) (ev_add (ev_var 2) (ev_n 1)) hmul)⟩)) (e := dRow (gatesM t)) rfl) ?_
  refine q_newL ?_
  have hzl : t.L.zipIdx.length = t.L.length := List.length_zipIdx
  have gz : ∀ q ∈ t.L.zipIdx, q.1 < t.M.length := fun q hq => hL _ (List.mem_of_getElem? (zi_mem hq).2)
  have lenA : ∀ q, (pA t q).length ≤ 10 * 82 + 81 * 20 := fun q => by
    have h := pA_len t q
    have h1 : (1 + t.M.length) * (1 + t.A.length) ≤ 10 * 82 := Nat.mul_le_mul (by omega) (by omega)
    have h2 : t.A.length * ((1 + t.M.length) * 2) ≤ 81 * 20 := Nat.mul_le_mul hPA (by omega)
    omega
  have lenAll : ∀ k, ((t.L.zipIdx.take k).flatMap (pA t)).length ≤ 4 * (10 * 82 + 81 * 20) := fun k => by
    refine Nat.le_trans (flat_len _ fun q _ => lenA q) (Nat.mul_le_mul_right _ ?_)
    rw [List.length_take]
    omega
  refine q_for (ei_enumT (ev_var 6)) (fun i Γ' => ∃ s9 s10 s11 s12 s13, Γ' = [.d (dRd r), .d (dRd t), .d (dI t.M.length), .d (dI (1 + t.M.length + t.A.length * (t.M.length + 1))), .d (dRow (gatesM t)), .l (((t.L.zipIdx.take i).flatMap (pA t)).map dT3), .d (dRow t.L), .d (dMat t.M), .d (dPs t.A), s9, s10, s11, s12, s13]) ⟨_, _, _, _, _, rfl⟩ ?_ ?_
  · rintro i d Γ' hd ⟨s9, s10, s11, s12, s13, rfl⟩
    obtain ⟨q, hq, rfl⟩ := map_at hd
    have hq1 := gz q (List.mem_of_getElem? hq)
    have hl1 := lenAll i
    have hl2 := lenA q
    rw [take_snoc hq, List.flatMap_append]
    have e : [q].flatMap (pA t) = pA t q := by simp
    rw [e]
    generalize (t.L.zipIdx.take i).flatMap (pA t) = acc at hl1 ⊢
    have hb : (begM t.M (t.A.zip (gatesM t)) q.2 q.1).length ≤ (pA t q).length := by
      unfold pA
      rw [List.length_append]
      omega
    refine ⟨_, _, tg_2, q_ext rfl (ev_call5 (ev_var 9) (ev_var 10) (ev_var 7) (ev_var 8) (ev_var 4) ⟨q.2, q.1, t.M, t.A, gatesM t, rfl, sq, hq1, hm, hPA, rfl⟩) (by rw [List.length_map, List.length_map]; omega) ?_⟩
    rw [← List.map_append]
    have hl3 : (acc ++ begM t.M (t.A.zip (gatesM t)) q.2 q.1).length ≤ 5 * (10 * 82 + 81 * 20) := by rw [List.length_append]; omega
    rw [pA, ← List.append_assoc]
    generalize acc ++ begM t.M (t.A.zip (gatesM t)) q.2 q.1 = acc1 at hl3 ⊢
    refine sx_one (q_for (ei_enumT (ev_var 8)) (fun j Γ' => ∃ s11 s12 s13, Γ' = [.d (dRd r), .d (dRd t), .d (dI t.M.length), .d (dI (1 + t.M.length + t.A.length * (t.M.length + 1))), .d (dRow (gatesM t)), .l ((acc1 ++ (t.A.zipIdx.take j).flatMap (pK t q.2 q.1)).map dT3), .d (dRow t.L), .d (dMat t.M), .d (dPs t.A), .d (dI q.2), .d (dI q.1), s11, s12, s13]) ⟨s11, s12, s13, by rw [List.take_zero, List.flatMap_nil, List.append_nil]; rfl⟩ ?_ ?_)
    · rintro j d Γ' hd ⟨s11, s12, s13, rfl⟩
      obtain ⟨p, hp, rfl⟩ := map_at hd
      have hk1 := pK_len t q.2 q.1 j
      have hk2 : (pK t q.2 q.1 p).length ≤ (1 + t.M.length) * 2 := rndM_len' _ _ _ _ _
      have hk3 : t.A.length * ((1 + t.M.length) * 2) ≤ 81 * 20 := Nat.mul_le_mul hPA (by omega)
      rw [take_snoc hp, List.flatMap_append]
      have e2 : [p].flatMap (pK t q.2 q.1) = pK t q.2 q.1 p := by simp
      rw [e2]
      generalize (t.A.zipIdx.take j).flatMap (pK t q.2 q.1) = acc2 at hk1 ⊢
      refine ⟨_, _, tg_t (tga_cons tg_n (tga_cons tg_2 tga_nil)), sx_one (q_ext rfl (ev_call5 (ev_var 9) (ev_var 10) (ev_var 7) (ev_var 13) (ev_row (ev_var 4) (ev_var 11) (gates_at (List.mem_of_getElem? hp))) ⟨q.2, q.1, t.M, p.1.2, (gatesM t).getD p.2 0, rfl, sq, hq1, hm, rfl⟩) ?_ (sx_next ⟨.d (dI p.2), .d (dI p.1.1), .d (dI p.1.2), ?_⟩))⟩
      · have e3 : rndM t.M p.1.2 ((gatesM t).getD p.2 0) q.2 q.1 = pK t q.2 q.1 p := rfl
        rw [e3, List.length_map, List.length_map, List.length_append]
        omega
      · have e4 : (acc1 ++ (acc2 ++ pK t q.2 q.1 p)).map dT3 = (acc1 ++ acc2).map dT3 ++ (pK t q.2 q.1 p).map dT3 := by rw [← List.append_assoc, List.map_append]
        rw [e4]
        rfl
    · rintro Γ' ⟨s11, s12, s13, rfl⟩
      rw [List.length_map, List.take_length]
      exact sx_next ⟨.d (dI q.2), .d (dI q.1), s11, s12, s13, rfl⟩
  · rintro Γ' ⟨s9, s10, s11, s12, s13, rfl⟩
    rw [List.length_map, List.take_length]
    refine sx_ret (ev_tupA (ds := [dI t.L.length, dI (1 + t.M.length + t.A.length * (t.M.length + 1)), dRow [0], .tuple ((srt3 (pAll t)).map dT3), dRow (gatesM t)]) (ea_cons (Ev.to (ev_lenT (ev_var 6)) (by rw [List.length_map])) (ea_cons (ev_var 3) (ea_cons (ev_t1 (ev_n 0)) (ea_2 (ev_tuL (ev_srt3 rfl)) (ev_var 4))))) (by simp))
end
end KK
namespace KK
open PySem PySem.Spec PyProof.Rows L2
/-! ### the law: a draw -/
def Dv (H : Hp) (σ : L2.St) (te : TE) (v : V) : Prop := ∀ Q : VK, Q v H → te σ H Q
section
variable {H : Hp} {σ : L2.St} {ta tb te : TE} {v u : V} {K : PySem.W.Frag} {x y : Int} {p : Addr} {xs : List V} {n i : Nat} {D : Ends} {tz tu tw : TS} {b : Bool}
theorem dv_var (h : σ[i]? = some (some v) := by rfl) : Dv H σ (tVar i) v := fun Q q => ⟨v, h, q⟩
theorem dv_c : Dv H σ (tC v) v := fun Q q => q
theorem dv_op {C : Int → Int → Prop} {g : Int → Int → V} (ha : Dv H σ ta (.int x)) (hb : Dv H σ tb (.int y)) (hc : C x y) : Dv H σ (tOp (rI C g) ta tb) (g x y) := fun Q q => ha _ (hb _ ⟨x, y, rfl, rfl, hc, q⟩)
theorem dv_op0 {g : Int → Int → V} (ha : Dv H σ ta (.int x)) (hb : Dv H σ tb (.int y)) : Dv H σ (tOp (rI0 g) ta tb) (g x y) := fun Q q => ha _ (hb _ ⟨x, y, rfl, rfl, q⟩)
theorem dv_int (ha : Dv H σ ta (.int x)) : Dv H σ (tCB rIn1 (tCons ta tNil)) (.int x) := fun Q q => ha _ (.inl ⟨x, rfl, q⟩)
theorem dv_ix (ha : Dv H σ ta (.ref p)) (hp : H p = some (.lst xs)) (hb : Dv H σ tb (.int x)) (hx : x = (n : Int)) (h : xs[n]? = some v) : Dv H σ (tOp (rIx K) ta tb) v := fun Q q => by
  subst hx
  exact ha _ (hb _ (.inl ⟨p, xs, _, v, rfl, rfl, SqL.of hp, atI_nat h, q⟩))
theorem dv_len (ha : Dv H σ ta (.ref p)) (hp : H p = some (.lst xs)) : Dv H σ (tCB (rLn K) (tCons ta tNil)) (.int xs.length) := fun Q q => ha _ ⟨p, xs, rfl, .inl (SqL.of hp), q⟩
theorem dq_asg (h : Dv H σ te v) (k : tz D (σ.set i (some v)) H) : tSeq (tAsg te (gName i)) tz D σ H := h _ k
theorem dq_put (h : Dv H σ te v) (h0 : σ[0]? = some (some (.ref p))) (hp : H p = some (.lst xs)) (hx : x = (n : Int)) (hn : n < xs.length) (k : tz D σ (upd H p (.lst (xs.set n v)))) : tSeq (tAsg te (gSub (tVar 0) (tC (.int x)) rSetL)) tz D σ H := by
  subst hx
  refine h _ ⟨.ref p, h0, ?_⟩
  exact ⟨p, xs, _, n, rfl, rfl, hp, by unfold ixN; rw [if_pos (by omega), if_pos (by omega)]; simp, k⟩
theorem dq_putE (h : Dv H σ te v) (h0 : σ[0]? = some (some (.ref p))) (hp : H p = some (.lst xs)) (hx : x = (n : Int)) (hn : n < xs.length) (k : ∀ H2, H2 = upd H p (.lst (xs.set n v)) → tz D σ H2) : tSeq (tAsg te (gSub (tVar 0) (tC (.int x)) rSetL)) tz D σ H := dq_put h h0 hp hx hn (k _ rfl)
theorem dq_if (h : Dv H σ te (.bl b)) (h1 : b = true → tu { D with nx := tz D } σ H) (h2 : b = false → tw { D with nx := tz D } σ H) : tSeq (tIfS (tTest te) tu tw) tz D σ H := by
  refine h _ ⟨b, rfl, ?_⟩
  cases b
  · exact h2 rfl
  · exact h1 rfl
theorem dq_seq {ts : TS} (J : L2.St → Hp → Prop) (h1 : ∀ D' : Ends, (∀ σ H, J σ H → D'.nx σ H) → ts D' σ H) (h2 : ∀ σ H, J σ H → tz D σ H) : tSeq ts tz D σ H := h1 _ h2
theorem dq_if1 (h : Dv H σ te (.bl b)) (h1 : b = true → tu D σ H) (h2 : b = false → tw D σ H) : tIfS (tTest te) tu tw D σ H := by
  refine h _ ⟨b, rfl, ?_⟩
  cases b
  · exact h2 rfl
  · exact h1 rfl
theorem dq_ret (h : Dv H σ te v) (k : D.rt v H) : tRet te D σ H := h _ k
end
/-- the state after so many draws -/
structure Gd (p : Addr) (F H H' : Hp) (a b e : Int) (s : Addr) (l : List Int) : Prop where
  hp : H' p = some (.lst [.int a, .int b, .ref s, .int e])
  hs : F s = some (.lst (l.map V.int))
  hb : 0 ≤ b
  st : Stp (some p) F H F H'
theorem Gd.nf {p : Addr} {F H H' : Hp} {a b e : Int} {s : Addr} {l : List Int} (g : Gd p F H H' a b e s l) : F p = none := (g.st.w.q p rfl).1
theorem Gd.put {p : Addr} {F H H' : Hp} {a b e a' b' e' : Int} {s : Addr} {l : List Int} (g : Gd p F H H' a b e s l) (hb : 0 ≤ b') {xs : List V} (ex : xs = [.int a', .int b', .ref s, .int e']) : Gd p F H (upd H' p (.lst xs)) a' b' e' s l := by
  subst ex
  have nf := g.nf
  refine ⟨upd_same, g.hs, hb, g.st.f, fun b o nb e => ?_, fun b e _ => e, fun b e => ?_, fun b o e => ?_, fun p' z => ?_⟩
  · rw [upd_ne fun y => nb (by rw [y])]
    exact g.st.h b o nb e
  · by_cases y : b = p
    · subst y
      rw [upd_same]
      simp
    · rw [upd_ne y]
      exact g.st.k b e
  · rw [upd_ne fun y => by subst y; rw [nf] at e; cases e]
    exact g.st.w.s b o e
  · cases z
    exact ⟨nf, a', b', e', s, l, upd_same, g.hs, hb⟩
theorem Gd.ls {p : Addr} {F H H' : Hp} {a b e : Int} {s : Addr} {l : List Int} (g : Gd p F H H' a b e s l) : H' s = some (.lst (l.map V.int)) := g.st.w.s _ _ g.hs
section
variable {P : Program} {w : World} {K : PySem.W.Frag} {mg : Str → Option Value} {base : Heap}
abbrev sL_draw : Stmt := topS 17
abbrev nL_draw : List Str := ["_law_state", "_law_limit", "_law_digit", "_law_position", "_law_cell", "_law_mixed_here"]
theorem scL_draw : FnScope nL_draw ["_law_state", "_law_limit"] (defScope sL_draw) := ⟨rfl, rfl, rfl, by decide +kernel, rfl, by decide +kernel, by decide +kernel⟩
def fs_draw : List PyData → (Hp → V → Prop) → Prop := fun ds R => ∃ n, ds = [dI n] ∧ 0 < n ∧ n < 1073741824 ∧ R = IsX (fun k : Nat => k < n) dI
theorem ok_draw {f : Addr} {fd : FuncData} (Fn : Fun K "_law_draw" "_law_draw" sL_draw f fd) (T : Bt mg) : FnOk P w K mg base CX0 1 f fd ["_law_state", "_law_limit"] (spS (RlD fs_draw)) := by
  refine fn_s Fn scL_draw (fun ds R h => by obtain ⟨n, rfl, _⟩ := h; rfl) (fun cdv A outer s H E hr => ⟨_, (pss_cons (ps_if (pt_cmpR op_lt (pe_ix (ixK K) (pv 0) pe_int (fun _ _ => rfl)) (pv 1) (nomark _))
(pss_cons (ps_asg (pe_ix (ixK K) (pv 0) pe_int (fun _ _ => rfl)) (pgn 3 scL_draw.nd))
(pss_cons (ps_asg (pe_op op_add (pv 3) pe_int) (pg_sub (pv 0) pe_int set_list))
(pss_cons (ps_asg pe_int (pgn 4 scL_draw.nd))
(pss_cons (ps_if (pt_cmpR op_lt (pv 3) (pe_callB (lenK K) (by rfl) T.len PySem.boot_len (pa_cons (pe_ix (ixK K) (pv 0) pe_int (fun _ _ => rfl)) pa_nil)) (nomark _))
(pss_one (ps_asg (pe_ix (ixK K) (pe_ix (ixK K) (pv 0) pe_int (fun _ _ => rfl)) (pv 3) (fun _ _ => rfl)) (pgn 4 scL_draw.nd)))
pss_nil)
(pss_one (ps_if (pt_cmpR op_ge (pv 4) (pe_op op_pow pe_int pe_int) (nomark _))
(pss_one (ps_asg (pv 4) (pg_sub (pv 0) pe_int set_list)))
(pss_cons (ps_asg (pe_op op_modN (pe_callTy c_int (by rfl) T.int (by decide +kernel) (pa_cons (pe_op op_mul (pe_op op_add (pe_op op_add (pe_op op_add (pe_ix (ixK K) (pv 0) pe_int (fun _ _ => rfl)) (pe_op op_modN (pe_callTy c_int (by rfl) T.int (by decide +kernel) (pa_cons (pv 4) pa_nil)) pe_int)) (pv 3)) pe_int) pe_int) pa_nil)) pe_int) (pg_sub (pv 0) pe_int set_list))
(pss_cons (ps_asg (pe_op op_modN (pe_callTy c_int (by rfl) T.int (by decide +kernel) (pa_cons (pe_op op_add (pe_op op_mul (pe_ix (ixK K) (pv 0) pe_int (fun _ _ => rfl)) pe_int) pe_int) pa_nil)) pe_int) (pgn 5 scL_draw.nd))
(pss_one (ps_asg (pe_op op_add (pe_op op_mul (pv 5) pe_int) (pe_op op_modN (pe_callTy c_int (by rfl) T.int (by decide +kernel) (pa_cons (pe_op op_add (pe_op op_mul (pv 5) pe_int) (pe_ix (ixK K) (pv 0) pe_int (fun _ _ => rfl))) pa_nil)) pe_int)) (pg_sub (pv 0) pe_int set_list)))))))))))
pss_nil)
(pss_cons (ps_asg (pe_op op_modN (pe_callTy c_int (by rfl) T.int (by decide +kernel) (pa_cons (pe_ix (ixK K) (pv 0) pe_int (fun _ _ => rfl)) pa_nil)) (pv 1)) (pgn 2 scL_draw.nd))
(pss_cons (ps_asg (pe_op op_fdivN (pe_ix (ixK K) (pv 0) pe_int (fun _ _ => rfl)) (pv 1)) (pg_sub (pv 0) pe_int set_list))
(pss_one (ps_ret (pv 2)))))), ?_⟩)
  rintro p F0 H0 ds R ⟨n, rfl, hn, hn2, rfl⟩
  intro F H σ E D dn dr
  have hl := E.env.len
  obtain ⟨x0, x1, x2, x3, x4, x5, rfl⟩ : ∃ x0 x1 x2 x3 x4 x5, σ = [x0, x1, x2, x3, x4, x5] := by
    match σ, hl with
    | [x0, x1, x2, x3, x4, x5], _ => exact ⟨_, _, _, _, _, _, rfl⟩
  obtain ⟨ov, e0, p', ep, e1⟩ := E.env.ok 0 .s rfl
  cases ep
  cases e0
  subst e1
  obtain ⟨ov, e0, v, e1, hv⟩ := E.env.ok 1 (.d (dI n)) rfl
  cases e0
  subst e1
  have hv := Dt.int_eq (hv F (Same.refl F))
  subst hv
  obtain ⟨nf, a, b, e, s, l, hp, hs, hb⟩ := E.st.w.q p rfl
  have g0 : Gd p F H H a b e s l := ⟨hp, hs, hb, Stp.refl E.st.w⟩
  clear hp hs hb dn
  have dr : ∀ (k : Nat) H', Stp (some p) F H F H' → k < n → D.rt (vN k) H' := fun k H' st hk => dr _ F H' (E.st.trans st) ⟨k, hk, .int _⟩
  clear E hl
  have c48 : ∀ x : Int, CMul x 48271 := fun x => .inr ⟨by decide, by decide⟩
  have c69 : ∀ x : Int, CMul x 69621 := fun x => .inr ⟨by decide, by decide⟩
  have c21 : ∀ x : Int, CMul x 2147483647 := fun x => .inr ⟨by decide, by decide⟩
  have c30 : ∀ x : Int, CMul x 30011 := fun x => .inr ⟨by decide, by decide⟩
  refine dq_seq (fun σ' H' => ∃ a b e s l x2 x3 x4 x5, σ' = [some (.ref p), some (vN n), x2, x3, x4, x5] ∧ Gd p F H H' a b e s l) (fun D' dn => ?_) ?_
  · refine dq_if1 (dv_op0 (dv_ix (n := 0) dv_var g0.hp dv_c rfl rfl) dv_var) (fun _ => ?_) fun _ => dn _ _ ⟨a, b, e, s, l, _, _, _, _, rfl, g0⟩
    refine dq_asg (dv_ix (n := 1) dv_var g0.hp dv_c rfl rfl) ?_
    refine dq_put (n := 1) (dv_op0 dv_var dv_c) rfl g0.hp rfl (by simp) ?_
    have hb := g0.hb
    have g1 := g0.put (a' := a) (b' := b + 1) (e' := e) (by omega) (xs := [V.int a, V.int b, V.ref s, V.int e].set 1 (.int (b + 1))) rfl
    generalize upd H p (.lst ([V.int a, V.int b, V.ref s, V.int e].set 1 (.int (b + 1)))) = H1 at g1 ⊢
    refine dq_asg dv_c ?_
    refine dq_seq (fun σ' H' => ∃ cell x2 x5, σ' = [some (.ref p), some (vN n), x2, some (.int b), some (.int cell), x5] ∧ H1 = H') (fun D'' dn' => ?_) ?_
    · refine dq_if1 (dv_op0 dv_var (dv_len (dv_ix (n := 2) dv_var g1.hp dv_c rfl rfl) g1.ls)) (fun h => ?_) fun _ => dn' _ _ ⟨0, _, _, rfl, rfl⟩
      have h := of_decide_eq_true h
      rw [List.length_map] at h
      have hl : b.toNat < l.length := by omega
      refine dq_asg (tz := tNext) (dv_ix (n := b.toNat) (v := .int l[b.toNat]) (dv_ix (n := 2) dv_var g1.hp dv_c rfl rfl) g1.ls dv_var (by omega) (by rw [List.getElem?_map, List.getElem?_eq_getElem hl]; rfl)) ?_
      exact dn' _ _ ⟨_, _, _, rfl, rfl⟩
    · rintro _ _ ⟨cell, x2', x5', rfl, rfl⟩
      refine dq_if1 (dv_op0 dv_var (dv_op dv_c dv_c ⟨by decide, by decide, by decide⟩)) (fun _ => ?_) fun _ => ?_
      · refine dq_put (tz := tNext) (n := 0) dv_var rfl g1.hp rfl (by simp) ?_
        exact dn _ _ ⟨_, _, _, _, _, _, _, _, _, rfl, g1.put (a' := cell) (b' := b + 1) (e' := e) (by omega) rfl⟩
      · refine dq_putE (n := 3) (dv_op (dv_int (dv_op (dv_op0 (dv_op0 (dv_op0 (dv_ix (n := 3) dv_var g1.hp dv_c rfl rfl) (dv_op (dv_int dv_var) dv_c (by decide))) dv_var) dv_c) dv_c (c48 _))) dv_c (by decide)) rfl g1.hp rfl (by simp) fun H2 eH => ?_
        have g2 : Gd p F H H2 a (b + 1) (((e + cell.fmod 2147483629 + b + 1) * 48271).fmod 2147483647) s l := by
          rw [eH]
          exact g1.put (by omega) rfl
        clear eH
        generalize ((e + cell.fmod 2147483629 + b + 1) * 48271).fmod 2147483647 = e2 at g2
        refine dq_asg (dv_op (dv_int (dv_op0 (dv_op (dv_ix (n := 3) dv_var g2.hp dv_c rfl rfl) dv_c (c69 _)) dv_c)) dv_c (by decide)) ?_
        refine dq_put (tz := tNext) (n := 0) (dv_op0 (dv_op dv_var dv_c (c21 _)) (dv_op (dv_int (dv_op0 (dv_op dv_var dv_c (c30 _)) (dv_ix (n := 3) dv_var g2.hp dv_c rfl rfl))) dv_c (by decide))) rfl g2.hp rfl (by simp) ?_
        exact dn _ _ ⟨_, _, _, _, _, _, _, _, _, rfl, g2.put (b' := b + 1) (e' := e2) (by omega) rfl⟩
  · rintro _ H1 ⟨a, b, e, s, l, x2, x3, x4, x5, rfl, g⟩
    have hn0 : (n : Int) ≠ 0 := by omega
    refine dq_asg (dv_op (dv_int (dv_ix (n := 0) dv_var g.hp dv_c rfl rfl)) dv_var hn0) ?_
    refine dq_put (n := 0) (dv_op (dv_ix (n := 0) dv_var g.hp dv_c rfl rfl) dv_var ⟨hn0, by omega⟩) rfl g.hp rfl (by simp) ?_
    have g2 := g.put (a' := a.fdiv n) (b' := b) (e' := e) g.hb rfl
    have em : a.fmod (n : Int) = ((a.fmod (n : Int)).toNat : Int) := by
      have := Int.fmod_nonneg_of_pos a (b := (n : Int)) (by omega)
      omega
    have hlt : (a.fmod (n : Int)).toNat < n := by
      have := Int.fmod_lt_of_pos a (b := (n : Int)) (by omega)
      omega
    refine dq_ret dv_var ?_
    rw [em]
    exact dr _ _ g2.st hlt
end
end KK
namespace KK
open PySem PySem.Spec PyProof.Rows L2
section
variable {c : Option Addr} {B : Bs} {Γ Γ2 : List Sl} {ta tb te tx : TE} {tt : TT} {g : TG} {vs : List Nat} {P R : Hp → V → Prop} {ts tz tu : TS} {N : List Sl → Prop} {i s n : Nat} {G G1 G2 : Nat → Prop} {K : PySem.W.Frag} {d : PyData}
/-- a draw -/
theorem ev_draw (hs : Γ[s]? = some .s) (h : EvD c Γ te (dI n)) (h0 : 0 < n) (h1 : n < 1073741824) : Ev c Γ (tCall (spS (RlD fs_draw)) [] E0 (tCons (tVar s) (tCons te tNil))) (IsX (fun k => k < n) dI) :=
  ev_callS hs (ea_1 h) fun F vs p => ⟨[dI n], all2_data (ds := [dI n]) p, n, rfl, h0, h1, rfl⟩
theorem ev_addX (ha : EvD c Γ ta (dI i)) (hb : Ev c Γ tb (IsX G dI)) : Ev c Γ (tOp (rI0 fun i j => .int (i + j)) ta tb) (IsX (fun n => ∃ k, G k ∧ n = i + k) dI) := by
  refine ev_op ha hb fun F H v u w p1 p2 Q q => ?_
  obtain ⟨k, gk, p2⟩ := p2
  rw [Dt.int_eq p1, Dt.int_eq p2]
  refine ⟨(i : Int), (k : Int), rfl, rfl, q _ F H (Stp.refl w) ⟨i + k, ⟨k, gk, rfl⟩, dt_n (by omega)⟩⟩
/-- a comprehension over range(something) -/
theorem ev_lcR (h : Ev c Γ ta (IsX G dI)) (k : ∀ n, G n → Ev c Γ (tLc (iRng1 (tCons (tC (vN n)) tNil)) g tt te vs) P) : Ev c Γ (tLc (iRng1 (tCons ta tNil)) g tt te vs) P := fun F H σ w E Q q => by
  refine h F H σ w E _ fun v F1 H1 s1 ⟨n, gn, p⟩ => ?_
  rw [Dt.int_eq p]
  exact k n gn F1 H1 σ s1.w (E.step s1) Q fun v F2 H2 s2 p2 => q v F2 H2 (s1.trans s2) p2
theorem sx_forR (h : Ev B.c Γ ta (IsX G dI)) (k : ∀ n, G n → Sx B Γ (tFor (iRng1 (tCons (tC (vN n)) tNil)) g tu) N R) : Sx B Γ (tFor (iRng1 (tCons ta tNil)) g tu) N R := fun F H σ E D dn dr => by
  refine h F H σ E.w E.env _ fun v F1 H1 s1 ⟨n, gn, p⟩ => ?_
  rw [Dt.int_eq p]
  exact k n gn F1 H1 σ (E.step s1) D (fun Γ' F' H' σ' m e => dn Γ' F' H' σ' m (s1.f.trans e)) dr
theorem ev_vn : EvD c Γ (tC (vN n)) (dI n) := ev_n n
theorem ev_t2X {α β : Type} {Ga : α → Prop} {Gb : β → Prop} {fa : α → PyData} {fb : β → PyData} (ha : Ev c Γ ta (IsX Ga fa)) (hb : Ev c Γ tb (IsX Gb fb)) : Ev c Γ (tTup (tCons ta (tCons tb tNil))) (IsX (fun p : α × β => Ga p.1 ∧ Gb p.2) fun p => .tuple [fa p.1, fb p.2]) := fun F H σ w E Q q => by
  refine ea_2 ha hb F H σ w E _ fun vs F1 H1 s1 p => ?_
  obtain ⟨v1, v2, rfl, ⟨x, gx, px⟩, y, gy, py⟩ := all2_two p
  refine ⟨sz_ok (by simp), fun b hb => ?_⟩
  obtain ⟨st, dt⟩ := pair_new s1.w hb px py
  exact q _ _ _ (s1.trans st) ⟨(x, y), ⟨gx, gy⟩, dt⟩
/-- a new list that may change -/
theorem q_newRg (h : EvD B.c Γ ta (dI n)) (hn : n ≤ 100000) (k : Sx B (Γ.set i (.l ((List.range n).map dI))) tz N R) : Sx B Γ (tSeq (tAsg (tLstRg (tRg1 ta)) (gName i)) tz) N R := fun F H σ E D dn dr => by
  refine h F H σ E.w E.env _ fun v F1 H1 s1 p => ?_
  refine ⟨(n : Int), Dt.int_eq p, RgOk.of_le (by omega) (by omega) (by omega) (by omega), fun l hl => ?_⟩
  exact k _ _ _ ((E.step s1).cell (x := .l ((List.range n).map dI)) hl rfl ⟨_, upd_same, rgV_dt n⟩) D (fun Γ' F' H' σ' m e => dn Γ' F' H' σ' m (s1.f.trans e)) dr
theorem q_newL1 (h : EvD B.c Γ ta d) (k : Sx B (Γ.set i (.l [d])) tz N R) : Sx B Γ (tSeq (tAsg (tLst (tCons ta tNil)) (gName i)) tz) N R := fun F H σ E D dn dr => by
  refine h F H σ E.w E.env _ fun v F1 H1 s1 p => ?_
  refine ⟨sz_ok (by simp), fun l hl => ?_⟩
  exact k _ _ _ ((E.step s1).cell (x := .l [d]) hl rfl ⟨_, upd_same, .one p⟩) D (fun Γ' F' H' σ' m e => dn Γ' F' H' σ' m (s1.f.trans e)) dr
end
section
variable {P : Program} {w : World} {K : PySem.W.Frag} {mg : Str → Option Value} {base : Heap}
/-! ### the law: products of a kind -/
def prodM (kind n x y : Nat) : Nat := if kind = 0 then (x + y) % n else if kind = 1 then max x y else if kind = 2 then (if y = 0 then x else y) else if x = 0 then y else x
abbrev sL_product : Stmt := topS 19
abbrev nL_product : List Str := ["_law_kind", "_law_count", "_law_x", "_law_y"]
theorem scL_product : FnScope nL_product ["_law_kind", "_law_count", "_law_x", "_law_y"] (defScope sL_product) := ⟨rfl, rfl, rfl, by decide +kernel, rfl, by decide +kernel, by decide +kernel⟩
def fs_prod : List PyData → (Hp → V → Prop) → Prop := fun ds R => ∃ kind n x y, ds = [dI kind, dI n, dI x, dI y] ∧ 0 < n ∧ R = IsD (dI (prodM kind n x y))
theorem ok_product {f : Addr} {fd : FuncData} (Fn : Fun K "_law_product" "_law_product" sL_product f fd) (T : Bt mg) : FnOk P w K mg base CX0 1 f fd ["_law_kind", "_law_count", "_law_x", "_law_y"] (spD fs_prod) := by
  refine fn_d Fn scL_product (fun ds R h => by obtain ⟨kind, n, x, y, rfl, _⟩ := h; rfl) (fun cdv A outer s H E hr => ⟨_, (pss_cons (ps_if (pt_cmpR op_eq (pv 0) pe_int (nomark _))
(pss_one (ps_ret (pe_op op_modN (pe_callTy c_int (by rfl) T.int (by decide +kernel) (pa_cons (pe_op op_add (pv 2) (pv 3)) pa_nil)) (pv 1))))
pss_nil)
(pss_cons (ps_if (pt_cmpR op_eq (pv 0) pe_int (nomark _))
(pss_one (ps_ret (pe_callB (c_max rfl) (by rfl) T.max (by decide +kernel) (pa_cons (pv 2) (pa_cons (pv 3) pa_nil)))))
pss_nil)
(pss_cons (ps_if (pt_cmpR op_eq (pv 0) pe_int (nomark _))
(pss_one (ps_ret (pe_ifExp (pt_cmpR op_eq (pv 3) pe_int (nomark _)) (pv 2) (pv 3))))
pss_nil)
(pss_one (ps_ret (pe_ifExp (pt_cmpR op_eq (pv 2) pe_int (nomark _)) (pv 3) (pv 2))))))), ?_⟩)
  rintro F0 H0 ds R ⟨kind, n, x, y, rfl, h0, rfl⟩
  refine q_ifR (et_test (ev_eq (ev_var 0) (ev_n 0))) (fun e => sx_one (sx_ret (Ev.to (ev_mod (ev_inI (ev_add (ev_var 2) (ev_var 3))) (ev_var 1) h0) ?_))) fun e => ?_
  · rw [prodM, if_pos (of_decide_eq_true e)]
  have e := of_decide_eq_false e
  refine q_ifR (et_test (ev_eq (ev_var 0) (ev_n 1))) (fun e1 => sx_one (sx_ret (Ev.to (ev_max (ev_var 2) (ev_var 3)) ?_))) fun e1 => ?_
  · rw [prodM, if_neg e, if_pos (of_decide_eq_true e1)]
  have e1 := of_decide_eq_false e1
  refine q_ifR (et_test (ev_eq (ev_var 0) (ev_n 2))) (fun e2 => sx_one (sx_ret (ev_if (et_test (ev_eq (ev_var 3) (ev_n 0))) (fun z => Ev.to (ev_var 2) ?_) fun z => Ev.to (ev_var 3) ?_))) fun e2 => ?_
  · rw [prodM, if_neg e, if_neg e1, if_pos (of_decide_eq_true e2), if_pos (of_decide_eq_true z)]
  · rw [prodM, if_neg e, if_neg e1, if_pos (of_decide_eq_true e2), if_neg (of_decide_eq_false z)]
  have e2 := of_decide_eq_false e2
  refine sx_ret (ev_if (et_test (ev_eq (ev_var 2) (ev_n 0))) (fun z => Ev.to (ev_var 3) ?_) fun z => Ev.to (ev_var 2) ?_)
  · rw [prodM, if_neg e, if_neg e1, if_neg e2, if_pos (of_decide_eq_true z)]
  · rw [prodM, if_neg e, if_neg e1, if_neg e2, if_neg (of_decide_eq_false z)]
/-! ### the law: rows of letters, words -/
def RowOk (n low most : Nat) (r : List Nat) : Prop := low ≤ r.length ∧ r.length ≤ most ∧ ∀ b ∈ r, b < n
abbrev sL_row : Stmt := topS 25
abbrev nL_row : List Str := ["_law_state", "_law_count", "_law_low", "_law_most", "_law_k"]
theorem scL_row : FnScope nL_row ["_law_state", "_law_count", "_law_low", "_law_most"] (defScope sL_row) := ⟨rfl, rfl, rfl, by decide +kernel, rfl, by decide +kernel, by decide +kernel⟩
def fs_row : List PyData → (Hp → V → Prop) → Prop := fun ds R => ∃ n low most, ds = [dI n, dI low, dI most] ∧ 0 < n ∧ n < 1000 ∧ low ≤ most ∧ most ≤ 100 ∧ R = IsX (RowOk n low most) dLst
theorem ok_row {f : Addr} {fd : FuncData} (Fn : Fun K "_law_row" "_law_row" sL_row f fd) (T : Bt mg) (CL_draw : Cl P w K mg base 1 "_law_draw" ["_law_state", "_law_limit"] (spS (RlD fs_draw))) : FnOk P w K mg base CX0 2 f fd ["_law_state", "_law_count", "_law_low", "_law_most"] (spS (RlD fs_row)) := by
  refine fn_s Fn scL_row (fun ds R h => by obtain ⟨n, low, most, rfl, _⟩ := h; rfl) (fun cdv A outer s H E hr => ⟨_, (pss_one (ps_ret (pe_lc (own := [("_law_k", 4)]) rfl scL_row.nd (pi_range1 (by rfl) T.range (pa_cons (pe_op op_add (pv 2) (pe_c CL_draw (hr.mono (by decide)) (pa_cons (pv 0) (pa_cons (pe_op op_add (pe_op op_sub (pv 3) (pv 2)) pe_int) pa_nil)))) pa_nil)) (blkOk_by (by kernel_rfl)) (fun _ _ _ _ _ => (pgn 4 scL_row.nd)) (fun _ _ _ _ _ => pts_nil) (fun _ _ _ _ _ => (pe_c CL_draw (hr.mono (by decide)) (pa_cons (pv 0) (pa_cons (pv 1) pa_nil))))))), ?_⟩)
  rintro p F0 H0 ds R ⟨n, low, most, rfl, h0, h1, h2, h3, rfl⟩
  refine sx_ret (ev_lcR (ev_addX (ev_var 2) (ev_draw rfl (ev_add (ev_sub (ev_var 3) (ev_var 2) h2) (ev_n 1)) (by omega) (by omega))) ?_)
  rintro k ⟨j, hj, rfl⟩
  refine (ev_lcX (List.range (low + j)) dI dI (fun b => b < n) (ei_r ev_vn (by omega)) (by simp; omega) (by decide) fun x hx => ⟨_, tg_n, ev_draw rfl (ev_var 1) h0 (by omega)⟩).imp fun F v ⟨r, ⟨hr1, hr2⟩, p⟩ => ⟨r, ⟨?_, ?_, hr2⟩, p⟩
  · rw [List.length_range] at hr1
    omega
  · rw [List.length_range] at hr1
    omega
abbrev sL_word : Stmt := topS 26
abbrev nL_word : List Str := ["_law_state", "_law_count", "_law_most"]
theorem scL_word : FnScope nL_word ["_law_state", "_law_count", "_law_most"] (defScope sL_word) := ⟨rfl, rfl, rfl, by decide +kernel, rfl, by decide +kernel, by decide +kernel⟩
def WordOk (n most : Nat) (p : List Nat × List Nat) : Prop := RowOk n 0 most p.1 ∧ RowOk n 1 most p.2
def fs_word : List PyData → (Hp → V → Prop) → Prop := fun ds R => ∃ n most, ds = [dI n, dI most] ∧ 0 < n ∧ n < 1000 ∧ 1 ≤ most ∧ most ≤ 100 ∧ R = IsX (WordOk n most) (fun p => dWd p.1 p.2)
theorem ok_word {f : Addr} {fd : FuncData} (Fn : Fun K "_law_word" "_law_word" sL_word f fd) (T : Bt mg) (CL_row : Cl P w K mg base 2 "_law_row" ["_law_state", "_law_count", "_law_low", "_law_most"] (spS (RlD fs_row))) : FnOk P w K mg base CX0 3 f fd ["_law_state", "_law_count", "_law_most"] (spS (RlD fs_word)) := by
  refine fn_s Fn scL_word (fun ds R h => by obtain ⟨n, most, rfl, _⟩ := h; rfl) (fun cdv A outer s H E hr => ⟨_, (pss_one (ps_ret (pe_tup (pa_cons (pe_c CL_row (hr.mono (by decide)) (pa_cons (pv 0) (pa_cons (pv 1) (pa_cons pe_int (pa_cons (pv 2) pa_nil))))) (pa_cons (pe_c CL_row (hr.mono (by decide)) (pa_cons (pv 0) (pa_cons (pv 1) (pa_cons pe_int (pa_cons (pv 2) pa_nil))))) pa_nil))))), ?_⟩)
  rintro p F0 H0 ds R ⟨n, most, rfl, h0, h1, h2, h3, rfl⟩
  exact sx_ret (ev_t2X (Ga := RowOk n 0 most) (Gb := RowOk n 1 most) (fa := dLst) (fb := dLst)
    (ev_callS rfl (ea_3 (ev_var 1) (ev_n 0) (ev_var 2)) fun F vs p => ⟨[dI n, dI 0, dI most], all2_data (ds := [dI n, dI 0, dI most]) p, n, 0, most, rfl, h0, h1, by omega, h3, rfl⟩)
    (ev_callS rfl (ea_3 (ev_var 1) (ev_n 1) (ev_var 2)) fun F vs p => ⟨[dI n, dI 1, dI most], all2_data (ds := [dI n, dI 1, dI most]) p, n, 1, most, rfl, h0, h1, by omega, h3, rfl⟩))
/-! ### the law: values mixed -/
abbrev sL_mixed : Stmt := topS 21
abbrev nL_mixed : List Str := ["_law_state", "_law_count", "_law_left", "_law_made", "_law_k"]
theorem scL_mixed : FnScope nL_mixed ["_law_state", "_law_count"] (defScope sL_mixed) := ⟨rfl, rfl, rfl, by decide +kernel, rfl, by decide +kernel, by decide +kernel⟩
def fs_mixed : List PyData → (Hp → V → Prop) → Prop := fun ds R => ∃ n, ds = [dI n] ∧ n ≤ 1000 ∧ R = IsX (fun m : List Nat => m.Perm (List.range n)) dLst
theorem ok_mixed {f : Addr} {fd : FuncData} (Fn : Fun K "_law_mixed" "_law_mixed" sL_mixed f fd) (T : Bt mg) (CL_draw : Cl P w K mg base 1 "_law_draw" ["_law_state", "_law_limit"] (spS (RlD fs_draw))) : FnOk P w K mg base CX0 2 f fd ["_law_state", "_law_count"] (spS (RlD fs_mixed)) := by
  refine fn_s Fn scL_mixed (fun ds R h => by obtain ⟨n, rfl, _⟩ := h; rfl) (fun cdv A outer s H E hr => ⟨_, (pss_cons (ps_asg (pe_listRg rfl (by rfl) T.list (prg_1 (by rfl) T.range (pv 1))) (pgn 2 scL_mixed.nd))
(pss_cons (ps_asg (pe_lst pa_nil) (pgn 3 scL_mixed.nd))
(pss_cons (ps_for PassesOwn.never rfl (pi_range1 (by rfl) T.range (pa_cons (pv 1) pa_nil)) (pgn 4 scL_mixed.nd)
(pss_one (ps_expr (bmK K PySem.F.plainAttrs_list PySem.F.slot_list_append PySem.F.type_list_append mt_append (pv 3) (pa_cons (bmK K PySem.F.plainAttrs_list PySem.F.slot_list_pop PySem.F.type_list_pop mt_popAt (pv 2) (pa_cons (pe_c CL_draw (hr.mono (by decide)) (pa_cons (pv 0) (pa_cons (pe_callB (lenK K) (by rfl) T.len PySem.boot_len (pa_cons (pv 2) pa_nil)) pa_nil))) pa_nil)) pa_nil)))))
(pss_one (ps_ret (pv 3)))))), ?_⟩)
  rintro p F0 H0 ds R ⟨n, rfl, hn, rfl⟩
  refine q_newRg (ev_var 1) (by omega) (q_newL ?_)
  refine q_for (ds := (List.range n).map dI) (ei_r (ev_var 1) (by omega)) (fun i Γ' => ∃ left made s4, Γ' = [.s, .d (dI n), .l (left.map dI), .l (made.map dI), s4] ∧ (made ++ left).Perm (List.range n) ∧ made.length = i) ⟨List.range n, [], _, rfl, List.Perm.refl _, rfl⟩ ?_ ?_
  · rintro i d Γ' hd ⟨left, made, s4, rfl, hp, hm⟩
    obtain ⟨x, hx, rfl⟩ := map_at hd
    have hi : i < n := by
      have := (List.getElem?_eq_some_iff.mp hx).1
      simpa using this
    have hl := hp.length_eq
    rw [List.length_append, List.length_range] at hl
    refine ⟨_, _, tg_n, sx_one (q_appPop (G := fun _ => True) rfl rfl (by decide) ?_ (by rw [List.length_map]; omega) (by rw [List.length_map]; omega) fun j d hj => ?_)⟩
    · exact ev_draw rfl (ev_lenC 2) (by rw [List.length_map]; omega) (by rw [List.length_map]; omega)
    · obtain ⟨y, hy, rfl⟩ := map_at hj
      have hj2 := (List.getElem?_eq_some_iff.mp hy).1
      refine sx_next ⟨left.eraseIdx j, made ++ [y], .d (dI x), ?_, ?_, by simp [hm]⟩
      · have e : (left.map dI).eraseIdx j = (left.eraseIdx j).map dI := by rw [List.eraseIdx_eq_take_drop_succ, List.eraseIdx_eq_take_drop_succ, List.map_append, List.map_take, List.map_drop]
        rw [List.map_append, e]
        rfl
      · refine List.Perm.trans ?_ hp
        rw [List.append_assoc]
        refine List.Perm.append_left _ ?_
        have hy2 : left[j] = y := (List.getElem?_eq_some_iff.mp hy).2
        rw [List.eraseIdx_eq_take_drop_succ]
        have e : left = left.take j ++ ([y] ++ left.drop (j + 1)) := by
          rw [← hy2]
          simp
        conv => rhs; rw [e]
        rw [← List.append_assoc, ← List.append_assoc]
        exact List.Perm.append_right _ List.perm_append_comm
  · rintro Γ' ⟨left, made, s4, rfl, hp, hm⟩
    rw [List.length_map, List.length_range] at hm
    have hl := hp.length_eq
    rw [List.length_append, List.length_range] at hl
    have : left = [] := List.length_eq_zero_iff.mp (by omega)
    subst this
    rw [List.append_nil] at hp
    exact q_frz 3 (sx_ret ((ev_var 3).imp fun F v p => ⟨made, hp, p⟩))
/-! ### the law: linked pairs -/
def lnkS (M : List (List Nat)) (s : Nat) : List (Nat × Nat) := ((List.range M.length).filter fun f => decide (mu M s f = s) && decide (mu M f f = f)).map fun f => (s, f)
def lnkM (M : List (List Nat)) : List (Nat × Nat) := (List.range M.length).flatMap (lnkS M)
theorem lnkS_len (M : List (List Nat)) (s : Nat) : (lnkS M s).length ≤ M.length := by
  unfold lnkS
  rw [List.length_map]
  exact Nat.le_trans (List.length_filter_le _ _) (by simp)
theorem lnkM_len (M : List (List Nat)) (i : Nat) : (((List.range M.length).take i).flatMap (lnkS M)).length ≤ M.length * M.length := by
  refine Nat.le_trans (flat_len _ fun s _ => lnkS_len M s) (Nat.mul_le_mul_right _ ?_)
  rw [List.length_take, List.length_range]
  omega
abbrev sL_linked : Stmt := topS 22
abbrev nL_linked : List Str := ["_law_mul", "_law_size", "_law_pairs", "_law_s", "_law_f"]
theorem scL_linked : FnScope nL_linked ["_law_mul"] (defScope sL_linked) := ⟨rfl, rfl, rfl, by decide +kernel, rfl, by decide +kernel, by decide +kernel⟩
def fs_linked : List PyData → (Hp → V → Prop) → Prop := fun ds R => ∃ M, ds = [dMat M] ∧ Sq M ∧ M.length ≤ 9 ∧ R = IsD (.list ((lnkM M).map dPr))
theorem ok_linked {f : Addr} {fd : FuncData} (Fn : Fun K "_law_linked" "_law_linked" sL_linked f fd) (T : Bt mg) : FnOk P w K mg base CX0 1 f fd ["_law_mul"] (spD fs_linked) := by
  refine fn_d Fn scL_linked (fun ds R h => by obtain ⟨M, rfl, _⟩ := h; rfl) (fun cdv A outer s H E hr => ⟨_, (pss_cons (ps_asg (pe_listRg rfl (by rfl) T.list (prg_1 (by rfl) T.range (pe_callB (lenK K) (by rfl) T.len PySem.boot_len (pa_cons (pv 0) pa_nil)))) (pgn 1 scL_linked.nd))
(pss_cons (ps_asg (pe_lst pa_nil) (pgn 2 scL_linked.nd))
(pss_cons (ps_for PassesOwn.never rfl (ilK K (pv 1)) (pgn 3 scL_linked.nd)
(pss_one (ps_asg (pe_op op_cat (pv 2) (pe_lc (own := [("_law_f", 4)]) rfl scL_linked.nd (ilK K (pv 1)) (blkOk_by (by kernel_rfl)) (fun _ _ _ _ _ => (pgn 4 scL_linked.nd)) (fun _ _ _ _ _ => (pts_one (PW.pt (pw_and (pt_cmpR op_eq (pe_ix (ixK K) (pe_ix (ixK K) (pv 0) (pv 3) (fun _ _ => rfl)) (pv 4) (fun _ _ => rfl)) (pv 3) (nomark _)) (pw_and1 (pt_cmpR op_eq (pe_ix (ixK K) (pe_ix (ixK K) (pv 0) (pv 4) (fun _ _ => rfl)) (pv 4) (fun _ _ => rfl)) (pv 4) (nomark _))))))) (fun _ _ _ _ _ => (pe_tup (pa_cons (pv 3) (pa_cons (pv 4) pa_nil)))))) (pgn 2 scL_linked.nd))))
(pss_one (ps_ret (pv 2)))))), ?_⟩)
  rintro F0 H0 ds R ⟨M, rfl, sq, hM, rfl⟩
  refine q_asg (ev_lsR (n := M.length) (Ev.to (ev_lenT (ev_var 0)) (by rw [List.length_map])) (by omega)) ?_
  refine q_asg ev_l0 ?_
  refine q_for (ds := (List.range M.length).map dI) (ei_l (ev_var 1)) (fun i Γ' => ∃ s3, Γ' = [.d (dMat M), .d (dLst (List.range M.length)), .d (.list ((((List.range M.length).take i).flatMap (lnkS M)).map dPr)), s3, .u]) ⟨_, rfl⟩ ?_ ?_
  · rintro i d Γ' hd ⟨s3, rfl⟩
    obtain ⟨s, hs, rfl⟩ := map_at hd
    have hsM : s < M.length := by simpa using List.mem_of_getElem? hs
    have hl1 := lnkM_len M i
    have hl2 := lnkS_len M s
    have h81 : M.length * M.length ≤ 9 * 9 := Nat.mul_le_mul hM hM
    rw [take_snoc hs, List.flatMap_append]
    have e : [s].flatMap (lnkS M) = lnkS M s := by simp
    rw [e]
    generalize ((List.range M.length).take i).flatMap (lnkS M) = acc at hl1 ⊢
    refine ⟨_, _, tg_n, sx_one (q_asg (Ev.to (ev_cat (ev_var 2) (ev_lc (List.range M.length) dI (fun f => (s, f)) dPr (fun f => decide (mu M s f = s) && decide (mu M f f = f)) (ei_l (ev_var 1)) (by simp; omega) (by decide) fun f hf => ⟨_, tg_n, ?_, fun _ => ev_t2 (ev_var 3) (ev_var 4)⟩) ?_) (e := .list ((acc ++ lnkS M s).map dPr)) ?_) (sx_next ⟨.d (dI s), rfl⟩))⟩
    · have hf : f < M.length := by simpa using hf
      exact et_and (et_test (ev_eq (ev_mu (ev_var 0) (ev_var 3) (ev_var 4) sq hsM hf) (ev_var 3))) fun _ => et_test (ev_eq (ev_mu (ev_var 0) (ev_var 4) (ev_var 4) sq hf hf) (ev_var 4))
    · have e2 : (((List.range M.length).filter fun f => decide (mu M s f = s) && decide (mu M f f = f)).map fun f => (s, f)) = lnkS M s := rfl
      rw [e2, List.length_map, List.length_map]
      omega
    · rw [List.map_append]
      rfl
  · rintro Γ' ⟨s3, rfl⟩
    rw [List.length_map, List.take_length]
    exact sx_ret (ev_var 2)
end
end KK
/-! M04: data that are equal, data of a shape; functions of points. -/
namespace KK
open PySem PySem.Spec PyProof.Rows L2
/-! ### data of a shape -/
def Shp (d : PyData) (k : Nat) : Prop := PyData.canLay0 d = true ∧ PyData.depth d ≤ k
theorem shp_all : ∀ {ds : List PyData} {k : Nat}, (∀ d ∈ ds, Shp d k) → PyData.canLayAll0 ds = true ∧ PyData.depthAll ds ≤ k
  | [], _, _ => by simp [PyData.canLayAll0, PyData.depthAll]
  | d :: ds, k, h => by
    obtain ⟨h1, h2⟩ := shp_all fun x hx => h x (List.mem_cons_of_mem _ hx)
    obtain ⟨h3, h4⟩ := h d (by simp)
    refine ⟨?_, ?_⟩
    · simp only [PyData.canLayAll0, h1, h3, Bool.and_true]
    · simp only [PyData.depthAll]
      omega
theorem shp_n (n : Nat) : Shp (dI n) 0 := by
  refine ⟨rfl, ?_⟩
  simp [PyData.depth]
theorem shp_t {ds : List PyData} {k : Nat} (h : ∀ d ∈ ds, Shp d k) : Shp (.tuple ds) (k + 1) := by
  obtain ⟨h1, h2⟩ := shp_all h
  refine ⟨by simp only [PyData.canLay0]; exact h1, ?_⟩
  simp only [PyData.depth]
  omega
theorem shp_l {ds : List PyData} {k : Nat} (h : ∀ d ∈ ds, Shp d k) : Shp (.list ds) (k + 1) := by
  obtain ⟨h1, h2⟩ := shp_all h
  refine ⟨by simp only [PyData.canLay0]; exact h1, ?_⟩
  simp only [PyData.depth]
  omega
theorem Shp.mono {d : PyData} {j k : Nat} (h : Shp d j) (e : j ≤ k) : Shp d k := ⟨h.1, Nat.le_trans h.2 e⟩
theorem shp_map {α : Type} {f : α → PyData} {k : Nat} (h : ∀ a, Shp (f a) k) (l : List α) : ∀ d ∈ l.map f, Shp d k := fun d hd => by
  obtain ⟨a, _, rfl⟩ := List.mem_map.mp hd
  exact h a
theorem Shp.sh {d : PyData} {k : Nat} (h : Shp d k) (hk : k ≤ 64 := by decide) : SeqAt.shaped d = true := by
  show (PyData.canLay0 d && decide (PyData.depth d ≤ 64)) = true
  rw [h.1, Bool.true_and]
  exact decide_eq_true (Nat.le_trans h.2 hk)
theorem shp_row (l : List Nat) : Shp (dRow l) 1 := shp_t (shp_map shp_n l)
theorem shp_rows (l : List (List Nat)) : Shp (.list (l.map dRow)) 2 := shp_l (shp_map shp_row l)
theorem shp_lst (l : List Nat) : Shp (dLst l) 1 := shp_l (shp_map shp_n l)
theorem shp_T3 (p : Nat × Nat × Nat) : Shp (dT3 p) 1 := shp_t fun d hd => by
  simp only [List.mem_cons, List.not_mem_nil, or_false] at hd
  rcases hd with rfl | rfl | rfl <;> exact shp_n _
theorem shp_Ac (a : Ac) : Shp (dAc a) 3 := shp_t fun d hd => by
  simp only [List.mem_cons, List.not_mem_nil, or_false] at hd
  rcases hd with rfl | rfl | rfl | rfl | rfl
  · exact (shp_n _).mono (by decide)
  · exact (shp_n _).mono (by decide)
  · exact (shp_row _).mono (by decide)
  · exact shp_t (shp_map shp_T3 _)
  · exact (shp_row _).mono (by decide)
/-! ### equal data -/
def EqI {α : Type} [DecidableEq α] (f : α → PyData) : Prop := ∀ a b, PyData.eqv (f a) (f b) = decide (a = b)
theorem eqi_n : EqI dI := fun a b => by
  have e : PyData.eqv (dI a) (dI b) = ((a : Int) == (b : Int)) := by simp only [PyData.eqv]
  rw [e, eqv_n]
theorem eqi_all {α : Type} [DecidableEq α] {f : α → PyData} (h : EqI f) : ∀ (a b : List α), PyData.eqvAll (a.map f) (b.map f) = decide (a = b)
  | [], [] => by simp [PyData.eqvAll]
  | [], _ :: _ => by simp [PyData.eqvAll]
  | _ :: _, [] => by simp [PyData.eqvAll]
  | x :: a, y :: b => by
    rw [List.map_cons, List.map_cons]
    simp only [PyData.eqvAll]
    rw [h x y, eqi_all h a b]
    by_cases h1 : x = y <;> by_cases h2 : a = b <;> simp [h1, h2]
theorem eqi_t {α : Type} [DecidableEq α] {f : α → PyData} (h : EqI f) : EqI fun l : List α => .tuple (l.map f) := fun a b => by
  have e : PyData.eqv (.tuple (a.map f)) (.tuple (b.map f)) = PyData.eqvAll (a.map f) (b.map f) := by simp only [PyData.eqv]
  rw [e, eqi_all h]
theorem eqi_row : EqI dRow := eqi_t eqi_n
theorem eqi_any {α : Type} [DecidableEq α] {f : α → PyData} (h : EqI f) (p : α) (l : List α) : ((l.map f).any fun z => PyData.eqv z (f p)) = decide (p ∈ l) := by
  induction l with
  | nil => simp
  | cons q l ih =>
    rw [List.map_cons, List.any_cons, ih, h]
    by_cases e : q = p
    · subst e; simp
    · have e2 : ¬ p = q := fun z => e z.symm
      simp [e, e2]
theorem eqi_T3 : EqI dT3 := fun p q => by
  obtain ⟨a, b, c⟩ := p
  obtain ⟨a', b', c'⟩ := q
  have e : PyData.eqv (dT3 (a, b, c)) (dT3 (a', b', c')) = (((a : Int) == (a' : Int)) && (((b : Int) == (b' : Int)) && (((c : Int) == (c' : Int)) && true))) := by simp only [PyData.eqv, PyData.eqvAll]
  rw [e, eqv_n, eqv_n, eqv_n]
  by_cases h1 : a = a' <;> by_cases h2 : b = b' <;> by_cases h3 : c = c' <;> simp [h1, h2, h3]
theorem eqv_self_T3 (l : List (Nat × Nat × Nat)) : PyData.eqv (.tuple (l.map dT3)) (.tuple (l.map dT3)) = true := by
  rw [eqi_t eqi_T3 l l]
  simp
theorem eqv_self_row (l : List Nat) : PyData.eqv (dRow l) (dRow l) = true := by
  rw [eqi_row l l]
  simp
theorem eqv_Ac (a : Ac) : PyData.eqv (dAc a) (dAc a) = true := by
  have e : PyData.eqv (dAc a) (dAc a) = (PyData.eqv (dI a.n) (dI a.n) && (PyData.eqv (dI a.st) (dI a.st) && (PyData.eqv (dRow a.fs) (dRow a.fs) && (PyData.eqv (.tuple (a.steps.map dT3)) (.tuple (a.steps.map dT3)) && (PyData.eqv (dRow a.again) (dRow a.again) && true))))) := by
    conv => lhs; rw [PyData.eqv]
    simp only [PyData.eqvAll]
  rw [e, eqv_self_T3, eqv_self_row, eqv_self_row, eqi_n, eqi_n]
  simp
section
variable {c : Option Addr} {Γ : List Sl} {ta tb : TE} {K : PySem.W.Frag}
/-- the place of a member -/
theorem ev_idx {α : Type} [BEq α] [LawfulBEq α] [DecidableEq α] {f : α → PyData} (h : EqI f) {l : List α} {x : α} (ha : EvD c Γ ta (.list (l.map f))) (hb : EvD c Γ tb (f x)) (h1 : SeqAt.shaped (.list (l.map f)) = true) (h2 : SeqAt.shaped (f x) = true) (hx : x ∈ l) :
    EvD c Γ (tBM K "list" (rIndexD K) ta (tCons tb tNil)) (dI (l.idxOf x)) := fun F H σ w E Q q => by
  refine ha F H σ w E _ fun v F1 H1 s1 p => ?_
  obtain ⟨a, xs, rfl, hl, r⟩ := Dt.lst_ex p
  refine ⟨.inl ⟨rfl, _, .inl (.inl (s1.w.s _ _ hl))⟩, ?_⟩
  refine hb F1 H1 σ s1.w (E.step s1) _ fun y F2 H2 s2 p2 => ?_
  have hlt := List.idxOf_lt_length_of_mem hx
  refine ⟨a, y, f x, l.map f, l.idxOf x, f x, rfl, rfl, Dt.dp _ _ (Dt.up (s2.f.trans s2.w.s) _ _ p), Dt.dp _ _ (Dt.up s2.w.s _ _ p2), h1, h2, ?_, by rw [h]; simp, fun m z hm hz => ?_, q _ F2 H2 (s1.trans s2) (.int _)⟩
  · rw [List.getElem?_map, List.getElem?_eq_getElem hlt, List.getElem_idxOf]
    rfl
  · obtain ⟨y', hy, rfl⟩ := map_at hz
    rw [h]
    have hne : y' ≠ x := fun e => by
      subst e
      have h3 := List.getElem?_eq_some_iff.mp hy
      obtain ⟨h4, h5⟩ := h3
      have := List.not_of_lt_findIdx (p := (· == y')) (xs := l) (i := m) hm
      rw [h5] at this
      simp at this
    simp [hne]
end
/-! ### functions of points -/
def cmpF (one two : List Nat) : List Nat := one.map fun x => two.getD x 0
structure Fns (k : Nat) (fs : List (List Nat)) : Prop where
  k9 : k ≤ 9
  nd : fs.Nodup
  ne : 0 < fs.length
  le : fs.length ≤ 9
  ok : ∀ f ∈ fs, f.length = k ∧ ∀ x ∈ f, x < k
def FnsC (fs : List (List Nat)) : Prop := ∃ k, Fns k fs ∧ ∀ a ∈ fs, ∀ b ∈ fs, cmpF a b ∈ fs
theorem cmp_ok {k : Nat} {a b : List Nat} (ha : a.length = k ∧ ∀ x ∈ a, x < k) (hb : b.length = k ∧ ∀ x ∈ b, x < k) : (cmpF a b).length = k ∧ ∀ x ∈ cmpF a b, x < k := by
  refine ⟨by unfold cmpF; rw [List.length_map]; exact ha.1, fun x hx => ?_⟩
  obtain ⟨y, hy, rfl⟩ := List.mem_map.mp hx
  have := ha.2 y hy
  exact hb.2 _ (getD_mem (by omega))
theorem cmp_assoc {k : Nat} {a b d : List Nat} (ha : a.length = k ∧ ∀ x ∈ a, x < k) (hb : b.length = k ∧ ∀ x ∈ b, x < k) : cmpF (cmpF a b) d = cmpF a (cmpF b d) := by
  unfold cmpF
  rw [List.map_map]
  refine List.map_congr_left fun x hx => ?_
  have hxk := ha.2 x hx
  show d.getD (b.getD x 0) 0 = (b.map fun y => d.getD y 0).getD x 0
  rw [List.getD_eq_getElem?_getD (l := b.map _), List.getElem?_map, List.getD_eq_getElem?_getD (l := b), List.getElem?_eq_getElem (by omega)]
  rfl
theorem Fns.add {k : Nat} {fs : List (List Nat)} (h : Fns k fs) {a : List Nat} (ha : a.length = k ∧ ∀ x ∈ a, x < k) (hn : a ∉ fs) (hl : fs.length < 9) : Fns k (fs ++ [a]) := by
  refine ⟨h.k9, ?_, by simp, by simp; omega, fun f hf => ?_⟩
  · rw [List.nodup_append]
    refine ⟨h.nd, by simp, fun x hx y hy => ?_⟩
    have : y = a := by simpa using hy
    subst this
    exact fun z => hn (z ▸ hx)
  · rcases List.mem_append.mp hf with z | z
    · exact h.ok f z
    · have : f = a := by simpa using z
      rw [this]; exact ha
theorem fns_three : FnsC [[0, 1], [0, 0], [1, 1]] := by
  refine ⟨2, ⟨by decide, by decide, by decide, by decide, by decide⟩, by decide⟩
/-! ### tables -/
def Asc (M : List (List Nat)) : Prop := ∀ x y z, x < M.length → y < M.length → z < M.length → mu M (mu M x y) z = mu M x (mu M y z)
structure Tb (M : List (List Nat)) : Prop where
  m : 0 < M.length
  m9 : M.length ≤ 9
  sq : Sq M
  as : Asc M
theorem gd_range {β : Type} (g : Nat → β) (d : β) {n x : Nat} (hx : x < n) : ((List.range n).map g).getD x d = g x := by
  rw [List.getD_eq_getElem?_getD, List.getElem?_map, List.getElem?_range hx]
  rfl
theorem mu_tab (l : List Nat) (n : Nat) (f : Nat → Nat → Nat) {x y : Nat} (hx : x < n) (hy : y < n) : mu ((List.range n).map fun x => (List.range n).map fun y => f x y) x y = f x y := by
  unfold mu
  rw [gd_range _ _ hx, gd_range _ _ hy]
theorem sq_tab (n : Nat) (f : Nat → Nat → Nat) (h : ∀ x y, x < n → y < n → f x y < n) : Sq ((List.range n).map fun x => (List.range n).map fun y => f x y) := fun row hr => by
  have hl : ((List.range n).map fun x => (List.range n).map fun y => f x y).length = n := by simp
  rw [hl]
  obtain ⟨x, hx, rfl⟩ := List.mem_map.mp hr
  refine ⟨by simp, fun z hz => ?_⟩
  obtain ⟨y, hy, rfl⟩ := List.mem_map.mp hz
  exact h x y (by simpa using hx) (by simpa using hy)
theorem tb_tab {n : Nat} {f : Nat → Nat → Nat} (h0 : 0 < n) (h9 : n ≤ 9) (h : ∀ x y, x < n → y < n → f x y < n) (as : ∀ x y z, x < n → y < n → z < n → f (f x y) z = f x (f y z)) : Tb ((List.range n).map fun x => (List.range n).map fun y => f x y) := by
  have hl : ((List.range n).map fun x => (List.range n).map fun y => f x y).length = n := by simp
  refine ⟨by omega, by omega, sq_tab n f h, fun x y z hx hy hz => ?_⟩
  rw [hl] at hx hy hz
  rw [mu_tab [0] n f hx hy, mu_tab [0] n f hy hz, mu_tab [0] n f (h x y hx hy) hz, mu_tab [0] n f hx (h y z hy hz)]
  exact as x y z hx hy hz
theorem prod_lt {kind n x y : Nat} (hx : x < n) (hy : y < n) : prodM kind n x y < n := by
  unfold prodM
  have := Nat.mod_lt (x + y) (y := n) (by omega)
  split
  · assumption
  · split
    · omega
    · split
      · split <;> assumption
      · split <;> assumption
theorem prod_as {kind n x y z : Nat} (hx : x < n) (hy : y < n) (hz : z < n) : prodM kind n (prodM kind n x y) z = prodM kind n x (prodM kind n y z) := by
  unfold prodM
  by_cases k0 : kind = 0
  · simp only [k0, if_true]
    rw [Nat.mod_add_mod, Nat.add_mod_mod, Nat.add_assoc]
  · simp only [k0, if_false]
    by_cases k1 : kind = 1
    · simp only [k1, if_true]
      omega
    · simp only [k1, if_false]
      by_cases k2 : kind = 2
      · simp only [k2, if_true]
        by_cases z0 : z = 0 <;> by_cases y0 : y = 0 <;> simp [z0, y0]
      · simp only [k2, if_false]
        by_cases x0 : x = 0 <;> by_cases y0 : y = 0 <;> simp [x0, y0]
def tabF (fs : List (List Nat)) : List (List Nat) := fs.map fun a => fs.map fun b => fs.idxOf (cmpF a b)
theorem tabF_eq (fs : List (List Nat)) : tabF fs = (List.range fs.length).map fun x => (List.range fs.length).map fun y => fs.idxOf (cmpF (fs.getD x []) (fs.getD y [])) := by
  unfold tabF
  have h : ∀ {β : Type} (g : List Nat → β), fs.map g = (List.range fs.length).map fun i => g (fs.getD i []) := fun g => by
    apply List.ext_getElem?
    intro i
    by_cases hi : i < fs.length
    · rw [List.getElem?_map, List.getElem?_map, List.getElem?_range hi, List.getElem?_eq_getElem hi]
      show _ = some (g (fs.getD i []))
      rw [List.getD_eq_getElem?_getD, List.getElem?_eq_getElem hi]
      rfl
    · rw [List.getElem?_eq_none (by simp; omega), List.getElem?_eq_none (by simp; omega)]
  rw [h]
  refine List.map_congr_left fun x _ => ?_
  rw [h]
theorem tabF_ok {fs : List (List Nat)} (h : FnsC fs) : Tb (tabF fs) := by
  obtain ⟨k, hk, hc⟩ := h
  rw [tabF_eq]
  have hm : ∀ {x : Nat}, x < fs.length → fs.getD x [] ∈ fs := fun h => getD_memR h
  have hg : ∀ {a : List Nat}, a ∈ fs → fs.getD (fs.idxOf a) [] = a := fun {a} ha => by
    rw [List.getD_eq_getElem?_getD, List.getElem?_eq_getElem (List.idxOf_lt_length_of_mem ha)]
    exact List.getElem_idxOf _
  refine tb_tab hk.ne hk.le (fun x y hx hy => List.idxOf_lt_length_of_mem (hc _ (hm hx) _ (hm hy))) fun x y z hx hy hz => ?_
  show fs.idxOf (cmpF (fs.getD (fs.idxOf _) []) _) = fs.idxOf (cmpF _ (fs.getD (fs.idxOf _) []))
  rw [hg (hc _ (hm hx) _ (hm hy)), hg (hc _ (hm hy) _ (hm hz)), cmp_assoc (hk.ok _ (hm hx)) (hk.ok _ (hm hy))]
end KK
namespace KK
open PySem PySem.Spec PyProof.Rows L2
section
variable {c : Option Addr} {Γ : List Sl} {ta tb tx ty : TE} {d1 d2 d3 d4 : PyData} {R : Hp → V → Prop} {f : List PyData → (Hp → V → Prop) → Prop}
theorem ev_call4 (h1 : EvD c Γ ta d1) (h2 : EvD c Γ tb d2) (h3 : EvD c Γ tx d3) (h4 : EvD c Γ ty d4) (h : f [d1, d2, d3, d4] R) : Ev c Γ (tCall (spD f) [] E0 (tCons ta (tCons tb (tCons tx (tCons ty tNil))))) R :=
  ev_callD (ds := [d1, d2, d3, d4]) (ea_cons h1 (ea_3 h2 h3 h4)) h
end
section
variable {P : Program} {w : World} {K : PySem.W.Frag} {mg : Str → Option Value} {base : Heap}
theorem cmp_range {k : Nat} {a b : List Nat} (ha : a.length = k) : ((List.range k).map fun j => b.getD (a.getD j 0) 0) = cmpF a b := by
  subst ha
  exact map_range (fun x => b.getD x 0) a
/-! ### the law: functions of points -/
abbrev sL_functions : Stmt := topS 18
abbrev nL_functions : List Str := ["_law_state", "_law_points", "_law_found_here", "_law_k", "_law_one", "_law_two", "_law_made", "_law_j"]
theorem scL_functions : FnScope nL_functions ["_law_state"] (defScope sL_functions) := ⟨rfl, rfl, rfl, by decide +kernel, rfl, by decide +kernel, by decide +kernel⟩
def fs_fun : List PyData → (Hp → V → Prop) → Prop := fun ds R => ds = [] ∧ R = IsX FnsC (fun fs => .list (fs.map dRow))
theorem ok_functions {f : Addr} {fd : FuncData} (Fn : Fun K "_law_functions" "_law_functions" sL_functions f fd) (T : Bt mg) (CL_draw : Cl P w K mg base 1 "_law_draw" ["_law_state", "_law_limit"] (spS (RlD fs_draw))) : FnOk P w K mg base CX0 2 f fd ["_law_state"] (spS (RlD fs_fun)) := by
  refine fn_s Fn scL_functions (fun ds R h => by obtain ⟨rfl, _⟩ := h; rfl) (fun cdv A outer s H E hr => ⟨_, (pss_cons (ps_asg (pe_op op_add pe_int (pe_c CL_draw (hr.mono (by decide)) (pa_cons (pv 0) (pa_cons pe_int pa_nil)))) (pgn 1 scL_functions.nd))
(pss_cons (ps_asg (pe_lst (pa_cons (pe_tupRg rfl (by rfl) T.tuple (prg_1 (by rfl) T.range (pv 1))) pa_nil)) (pgn 2 scL_functions.nd))
(pss_cons (ps_for PassesOwn.never rfl (pi_range1 (by rfl) T.range (pa_cons (pe_op op_add pe_int (pe_c CL_draw (hr.mono (by decide)) (pa_cons (pv 0) (pa_cons pe_int pa_nil)))) pa_nil)) (pgn 3 scL_functions.nd)
(pss_cons (ps_asg (pe_callTy (tupleK K) (by rfl) T.tuple (by decide +kernel) (pa_cons (pe_lc (own := [("_law_j", 7)]) rfl scL_functions.nd (pi_range1 (by rfl) T.range (pa_cons (pv 1) pa_nil)) (blkOk_by (by kernel_rfl)) (fun _ _ _ _ _ => (pgn 7 scL_functions.nd)) (fun _ _ _ _ _ => pts_nil) (fun _ _ _ _ _ => (pe_c CL_draw (hr.mono (by decide)) (pa_cons (pv 0) (pa_cons (pv 1) pa_nil))))) pa_nil)) (pgn 4 scL_functions.nd))
(pss_one (ps_if (pt_cmpR (niDK K (hu65 hr)) (pv 4) (pv 2) (by rfl))
(pss_one (ps_expr (bmK K PySem.F.plainAttrs_list PySem.F.slot_list_append PySem.F.type_list_append mt_append (pv 2) (pa_cons (pv 4) pa_nil))))
pss_nil))))
(pss_cons (ps_for PassesOwn.never rfl (pi_range1 (by rfl) T.range (pa_cons pe_int pa_nil)) (pgn 3 scL_functions.nd)
(pss_one (ps_for PassesOwn.never rfl (ilK K (pe_callTy (listK K) (by rfl) T.list (by decide +kernel) (pa_cons (pv 2) pa_nil))) (pgn 4 scL_functions.nd)
(pss_one (ps_for PassesOwn.never rfl (ilK K (pe_callTy (listK K) (by rfl) T.list (by decide +kernel) (pa_cons (pv 2) pa_nil))) (pgn 5 scL_functions.nd)
(pss_cons (ps_asg (pe_callTy (tupleK K) (by rfl) T.tuple (by decide +kernel) (pa_cons (pe_lc (own := [("_law_j", 7)]) rfl scL_functions.nd (pi_range1 (by rfl) T.range (pa_cons (pv 1) pa_nil)) (blkOk_by (by kernel_rfl)) (fun _ _ _ _ _ => (pgn 7 scL_functions.nd)) (fun _ _ _ _ _ => pts_nil) (fun _ _ _ _ _ => (pe_ix (ixK K) (pv 5) (pe_ix (ixK K) (pv 4) (pv 7) (fun _ _ => rfl)) (fun _ _ => rfl)))) pa_nil)) (pgn 6 scL_functions.nd))
(pss_one (ps_if (PW.pt (pw_and (pt_cmpR (niDK K (hu65 hr)) (pv 6) (pv 2) (by rfl)) (pw_and1 (pt_cmpR op_lt (pe_callB (lenK K) (by rfl) T.len PySem.boot_len (pa_cons (pv 2) pa_nil)) pe_int (nomark _)))))
(pss_one (ps_expr (bmK K PySem.F.plainAttrs_list PySem.F.slot_list_append PySem.F.type_list_append mt_append (pv 2) (pa_cons (pv 6) pa_nil))))
pss_nil))))))))
(pss_cons (ps_for PassesOwn.never rfl (ilK K (pv 2)) (pgn 4 scL_functions.nd)
(pss_one (ps_for PassesOwn.never rfl (ilK K (pv 2)) (pgn 5 scL_functions.nd)
(pss_one (ps_if (pt_cmpR (niDK K (hu65 hr)) (pe_callTy (tupleK K) (by rfl) T.tuple (by decide +kernel) (pa_cons (pe_lc (own := [("_law_j", 7)]) rfl scL_functions.nd (pi_range1 (by rfl) T.range (pa_cons (pv 1) pa_nil)) (blkOk_by (by kernel_rfl)) (fun _ _ _ _ _ => (pgn 7 scL_functions.nd)) (fun _ _ _ _ _ => pts_nil) (fun _ _ _ _ _ => (pe_ix (ixK K) (pv 5) (pe_ix (ixK K) (pv 4) (pv 7) (fun _ _ => rfl)) (fun _ _ => rfl)))) pa_nil)) (pv 2) (by rfl))
(pss_one (ps_ret (pe_lst (pa_cons (pe_tup (pa_cons pe_int (pa_cons pe_int pa_nil))) (pa_cons (pe_tup (pa_cons pe_int (pa_cons pe_int pa_nil))) (pa_cons (pe_tup (pa_cons pe_int (pa_cons pe_int pa_nil))) pa_nil))))))
pss_nil)))))
(pss_one (ps_ret (pv 2)))))))), ?_⟩)
  rintro p F0 H0 ds R ⟨rfl, rfl⟩
  refine q_asgX (ev_addX (ev_n 2) (ev_draw rfl (ev_n 2) (by omega) (by omega))) ?_
  rintro k ⟨j, hj, rfl⟩
  have hk : 2 + j ≤ 3 := by omega
  have hk0 : 0 < 2 + j := by omega
  generalize 2 + j = k at hk hk0 ⊢
  refine q_newL1 (d := dRow (List.range k)) (ev_tuR (ev_var 1) (by omega)) ?_
  have id0 : Fns k [List.range k] := ⟨by omega, by simp, by simp, by simp, fun f hf => by
    have : f = List.range k := by simpa using hf
    subst this
    exact ⟨by simp, fun x hx => by simpa using hx⟩⟩
  refine sx_seq (M := fun Γ' => ∃ fs s3 s4, Γ' = [.s, .d (dI k), .l (fs.map dRow), s3, s4, .u, .u, .u] ∧ Fns k fs) (sx_forR (ev_addX (ev_n 1) (ev_draw rfl (ev_n 2) (by omega) (by omega))) ?_) ?_
  · rintro n ⟨m, hm, rfl⟩
    refine (sx_for (ds := (List.range (1 + m)).map dI) (ei_r ev_vn (by omega)) (fun i Γ' => ∃ fs s3 s4, Γ' = [.s, .d (dI k), .l (fs.map dRow), s3, s4, .u, .u, .u] ∧ Fns k fs ∧ fs.length ≤ 1 + i) ⟨[List.range k], _, _, rfl, id0, by simp⟩ ?_).imp fun Γ' ⟨fs, s3, s4, e, h, _⟩ => ⟨fs, s3, s4, e, h⟩
    rintro i d Γ' hd ⟨fs, s3, s4, rfl, hf, hl⟩
    obtain ⟨x, hx, rfl⟩ := map_at hd
    have hi : i < 1 + m := by
      have := (List.getElem?_eq_some_iff.mp hx).1
      simpa using this
    refine ⟨_, _, tg_n, q_asgX (f := fun one : List Nat => dRow one) (ev_tuX (ev_lcX (List.range k) dI dI (fun b => b < k) (ei_r (ev_var 1) (by omega)) (by simp; omega) (by decide) fun j hj => ⟨_, tg_n, ev_draw rfl (ev_var 1) hk0 (by omega)⟩)) ?_⟩
    rintro one ⟨h1, h2⟩
    rw [List.length_range] at h1
    refine sx_if (et_test (Ev.to (ev_niC (ev_var 4) rfl (shp_row _).sh (shp_rows _).sh) (by rw [eqi_any eqi_row]))) (fun e => ?_) fun e => ?_
    · have e : one ∉ fs := by simpa using e
      refine sx_one (q_app rfl (d := dRow one) (ev_var 4) (by rw [List.length_map]; omega) (sx_next ⟨fs ++ [one], .d (dI x), .d (dRow one), ?_, hf.add ⟨h1, h2⟩ e (by omega), by simp; omega⟩))
      rw [List.map_append]
      rfl
    · exact sx_next ⟨fs, .d (dI x), .d (dRow one), rfl, hf, by omega⟩
  rintro Γ' ⟨fs, s3, s4, rfl, hf⟩
  have mk : ∀ {Γ : List Sl} {one two : List Nat}, Γ.length = 8 → (one.length = k ∧ ∀ x ∈ one, x < k) → (two.length = k ∧ ∀ x ∈ two, x < k) → Γ[1]? = some (.d (dI k)) → Γ[4]? = some (.d (dRow one)) → Γ[5]? = some (.d (dRow two)) →
      EvD (some p) Γ (tCB (rTu K) (tCons (tLc (iRng1 (tCons (tVar 1) tNil)) (gName 7) tYes (tOp (rIx K) (tVar 5) (tOp (rIx K) (tVar 4) (tVar 7))) [7]) tNil)) (dRow (cmpF one two)) := fun {Γ one two} hl h1 h2 e1 e4 e5 => by
    refine ev_tuL (Ev.to (ev_lc0 (List.range k) dI (fun j => two.getD (one.getD j 0) 0) dI (ei_r (ev_var 1 e1) (by omega)) (by simp; omega) (js := [7]) (by decide) fun j hj => ⟨_, tg_n, ?_⟩) (e := dLst (cmpF one two)) (by rw [cmp_range h1.1]))
    have hj : j < k := by simpa using hj
    match Γ, hl with
    | [a, b, c, d, e, f, g, h], _ =>
      cases e1; cases e4; cases e5
      exact ev_row (ev_var 5) (ev_row (ev_var 4) (ev_var 7) (by omega)) (by rw [h2.1]; exact h1.2 _ (getD_mem (by omega)))
  refine q_for (ds := (List.range 12).map dI) (ei_r (ev_n 12) (by omega)) (fun i Γ' => ∃ fs s3 s4 s5 s6, Γ' = [.s, .d (dI k), .l (fs.map dRow), s3, s4, s5, s6, .u] ∧ Fns k fs) ⟨fs, _, _, _, _, rfl, hf⟩ ?_ ?_
  · rintro i d Γ' hd ⟨fs, s3, s4, s5, s6, rfl, hf⟩
    refine ⟨_, _, tg_n, sx_one (q_for (ds := fs.map dRow) (ei_l (ev_lsC 2)) (fun j Γ' => ∃ fs s3 s4 s5 s6, Γ' = [.s, .d (dI k), .l (fs.map dRow), s3, s4, s5, s6, .u] ∧ Fns k fs) ⟨fs, _, _, _, _, rfl, hf⟩ ?_ fun Γ' h => sx_next h)⟩
    rintro j d Γ' hd ⟨fs2, s3, s4, s5, s6, rfl, hf2⟩
    obtain ⟨one, h1, rfl⟩ := map_at hd
    have o1 := hf.ok one (List.mem_of_getElem? h1)
    refine ⟨_, _, tg_n, sx_one (q_for (ds := fs2.map dRow) (ei_l (ev_lsC 2)) (fun j Γ' => ∃ fs s3 s5 s6, Γ' = [.s, .d (dI k), .l (fs.map dRow), s3, .d (dRow one), s5, s6, .u] ∧ Fns k fs) ⟨fs2, _, _, _, rfl, hf2⟩ ?_ fun Γ' ⟨fs, s3, s5, s6, e, h⟩ => sx_next ⟨fs, s3, _, s5, s6, e, h⟩)⟩
    rintro j2 d Γ' hd ⟨fs3, s3, s5, s6, rfl, hf3⟩
    obtain ⟨two, h2, rfl⟩ := map_at hd
    have o2 := hf2.ok two (List.mem_of_getElem? h2)
    refine ⟨_, _, tg_n, q_asg (mk rfl o1 o2 rfl rfl rfl) ?_⟩
    refine sx_if (et_and (et_test (Ev.to (ev_niC (ev_var 6) rfl (shp_row _).sh (shp_rows _).sh) (by rw [eqi_any eqi_row]))) fun _ => et_test (ev_lt (ev_lenC 2) (ev_n 9))) (fun e => ?_) fun e => ?_
    · simp only [Bool.and_eq_true, Bool.not_eq_true', decide_eq_false_iff_not, decide_eq_true_eq, List.length_map] at e
      refine sx_one (q_app rfl (d := dRow (cmpF one two)) (ev_var 6) (by rw [List.length_map]; omega) (sx_next ⟨fs3 ++ [cmpF one two], s3, .d (dRow two), .d (dRow (cmpF one two)), ?_, hf3.add (cmp_ok o1 o2) e.1 e.2⟩))
      rw [List.map_append]
      rfl
    · exact sx_next ⟨fs3, _, .d (dRow two), .d (dRow (cmpF one two)), rfl, hf3⟩
  · rintro Γ' ⟨fs, s3, s4, s5, s6, rfl, hf⟩
    refine q_frz 2 ?_
    refine q_for (ds := fs.map dRow) (ei_l (ev_var 2)) (fun i Γ' => ∃ s4 s5, Γ' = [.s, .d (dI k), .d (.list (fs.map dRow)), s3, s4, s5, s6, .u] ∧ ∀ a ∈ fs.take i, ∀ b ∈ fs, cmpF a b ∈ fs) ⟨_, _, rfl, fun a z => by simp at z⟩ ?_ ?_
    · rintro i d Γ' hd ⟨s4, s5, rfl, hc⟩
      obtain ⟨one, h1, rfl⟩ := map_at hd
      have o1 := hf.ok one (List.mem_of_getElem? h1)
      refine ⟨_, _, tg_n, sx_one (q_for (ds := fs.map dRow) (ei_l (ev_var 2)) (fun j Γ' => ∃ s5, Γ' = [.s, .d (dI k), .d (.list (fs.map dRow)), s3, .d (dRow one), s5, s6, .u] ∧ ∀ b ∈ fs.take j, cmpF one b ∈ fs) ⟨_, rfl, fun a z => by simp at z⟩ ?_ ?_)⟩
      · rintro j d Γ' hd ⟨s5, rfl, hc2⟩
        obtain ⟨two, h2, rfl⟩ := map_at hd
        have o2 := hf.ok two (List.mem_of_getElem? h2)
        refine ⟨_, _, tg_n, sx_if (et_test (Ev.to (ev_niD (mk rfl o1 o2 rfl rfl rfl) (ev_var 2) (shp_row _).sh (shp_rows _).sh) (by rw [eqi_any eqi_row]))) (fun e => sx_one (sx_ret (Ev.x (x := [[0, 1], [0, 0], [1, 1]]) (ev_l3 (ev_t2 (ev_n 0) (ev_n 1)) (ev_t2 (ev_n 0) (ev_n 0)) (ev_t2 (ev_n 1) (ev_n 1))) fns_three))) fun e => sx_next ⟨.d (dRow two), rfl, ?_⟩⟩
        have e : cmpF one two ∈ fs := by simpa using e
        rw [take_snoc h2]
        intro b hb
        rcases List.mem_append.mp hb with z | z
        · exact hc2 b z
        · have : b = two := by simpa using z
          rw [this]; exact e
      · rintro Γ' ⟨s5, rfl, hc2⟩
        rw [List.length_map, List.take_length] at hc2
        refine sx_next ⟨.d (dRow one), s5, rfl, ?_⟩
        rw [take_snoc h1]
        intro a ha
        rcases List.mem_append.mp ha with z | z
        · exact hc a z
        · have : a = one := by simpa using z
          rw [this]; exact hc2
    · rintro Γ' ⟨s4, s5, rfl, hc⟩
      rw [List.length_map, List.take_length] at hc
      exact sx_ret (Ev.x (x := fs) (ev_var 2) ⟨k, hf, hc⟩)
/-! ### the law: a table -/
abbrev sL_table : Stmt := topS 20
abbrev nL_table : List Str := ["_law_state", "_law_kind", "_law_count", "_law_found_here", "_law_x", "_law_one", "_law_y", "_law_two", "_law_j"]
theorem scL_table : FnScope nL_table ["_law_state"] (defScope sL_table) := ⟨rfl, rfl, rfl, by decide +kernel, rfl, by decide +kernel, by decide +kernel⟩
def fs_table : List PyData → (Hp → V → Prop) → Prop := fun ds R => ds = [] ∧ R = IsX KK.Tb (fun M => .list (M.map dLst))
theorem ok_table {f : Addr} {fd : FuncData} (Fn : Fun K "_law_table" "_law_table" sL_table f fd) (T : Bt mg) (CL_draw : Cl P w K mg base 1 "_law_draw" ["_law_state", "_law_limit"] (spS (RlD fs_draw))) (CL_functions : Cl P w K mg base 2 "_law_functions" ["_law_state"] (spS (RlD fs_fun)))
    (CL_product : Cl P w K mg base 1 "_law_product" ["_law_kind", "_law_count", "_law_x", "_law_y"] (spD fs_prod)) : FnOk P w K mg base CX0 3 f fd ["_law_state"] (spS (RlD fs_table)) := by
  refine fn_s Fn scL_table (fun ds R h => by obtain ⟨rfl, _⟩ := h; rfl) (fun cdv A outer s H E hr => ⟨_, (pss_cons (ps_asg (pe_c CL_draw (hr.mono (by decide)) (pa_cons (pv 0) (pa_cons pe_int pa_nil))) (pgn 1 scL_table.nd))
(pss_cons (ps_if (pt_cmpR op_gt (pv 1) pe_int (nomark _))
(pss_cons (ps_asg (pe_c CL_functions (hr.mono (by decide)) (pa_cons (pv 0) pa_nil)) (pgn 3 scL_table.nd))
(pss_one (ps_ret (pe_lc (own := [("_law_one", 5)]) rfl scL_table.nd (ilK K (pv 3)) (blkOk_by (by kernel_rfl)) (fun _ _ _ _ _ => (pgn 5 scL_table.nd)) (fun _ _ _ _ _ => pts_nil) (fun _ _ _ _ _ => (pe_lc (own := [("_law_two", 7)]) rfl scL_table.nd (ilK K (pv 3)) (blkOk_by (by kernel_rfl)) (fun _ _ _ _ _ => (pgn 7 scL_table.nd)) (fun _ _ _ _ _ => pts_nil) (fun _ _ _ _ _ => (bmK K PySem.F.plainAttrs_list PySem.F.slot_list_index PySem.F.type_list_index (indexK K (hu65 hr)) (pv 3) (pa_cons (pe_callTy (tupleK K) (by rfl) T.tuple (by decide +kernel) (pa_cons (pe_lc (own := [("_law_j", 8)]) rfl scL_table.nd (pi_range1 (by rfl) T.range (pa_cons (pe_callB (lenK K) (by rfl) T.len PySem.boot_len (pa_cons (pv 5) pa_nil)) pa_nil)) (blkOk_by (by kernel_rfl)) (fun _ _ _ _ _ => (pgn 8 scL_table.nd)) (fun _ _ _ _ _ => pts_nil) (fun _ _ _ _ _ => (pe_ix (ixK K) (pv 7) (pe_ix (ixK K) (pv 5) (pv 8) (fun _ _ => rfl)) (fun _ _ => rfl)))) pa_nil)) pa_nil)))))))))
pss_nil)
(pss_cons (ps_asg (pe_op op_add pe_int (pe_c CL_draw (hr.mono (by decide)) (pa_cons (pv 0) (pa_cons pe_int pa_nil)))) (pgn 2 scL_table.nd))
(pss_one (ps_ret (pe_lc (own := [("_law_x", 4)]) rfl scL_table.nd (pi_range1 (by rfl) T.range (pa_cons (pv 2) pa_nil)) (blkOk_by (by kernel_rfl)) (fun _ _ _ _ _ => (pgn 4 scL_table.nd)) (fun _ _ _ _ _ => pts_nil) (fun _ _ _ _ _ => (pe_lc (own := [("_law_y", 6)]) rfl scL_table.nd (pi_range1 (by rfl) T.range (pa_cons (pv 2) pa_nil)) (blkOk_by (by kernel_rfl)) (fun _ _ _ _ _ => (pgn 6 scL_table.nd)) (fun _ _ _ _ _ => pts_nil) (fun _ _ _ _ _ => (pe_c CL_product (hr.mono (by decide)) (pa_cons (pv 1) (pa_cons (pv 2) (pa_cons (pv 4) (pa_cons (pv 6) pa_nil)))))))))))))), ?_⟩)
  rintro p F0 H0 ds R ⟨rfl, rfl⟩
  refine q_asgX (ev_draw rfl (ev_n 6) (by omega) (by omega)) fun kind hkind => ?_
  refine q_ifR (et_test (ev_gt (ev_var 1) (ev_n 3))) (fun e => ?_) fun e => ?_
  · refine q_asgX (ev_callS rfl ea_nil fun F vs p => ⟨[], all2_data (ds := []) p, rfl, rfl⟩) fun fs hf => ?_
    have hC := hf
    obtain ⟨k, hk, hc⟩ := hC
    have h9 := hk.le
    refine sx_one (sx_ret (Ev.x (f := fun M : List (List Nat) => .list (M.map dLst)) (x := tabF fs) (Ev.to (ev_lc0 fs dRow (fun a => fs.map fun b => fs.idxOf (cmpF a b)) dLst (ei_l (ev_var 3)) (by omega) (by decide) fun a ha => ⟨_, tg_n, Ev.to (ev_lc0 fs dRow (fun b => fs.idxOf (cmpF a b)) dI (ei_l (ev_var 3)) (by omega) (by decide) fun b hb => ⟨_, tg_n, ?_⟩) rfl⟩) rfl) (tabF_ok hf)))
    have oa := hk.ok a ha
    have ob := hk.ok b hb
    refine ev_idx (f := dRow) (l := fs) (x := cmpF a b) eqi_row (ev_var 3) (ev_tuL (Ev.to (ev_lc0 (List.range a.length) dI (fun j => b.getD (a.getD j 0) 0) dI (ei_r (Ev.to (ev_lenT (ev_var 5)) (by rw [List.length_map])) ?_) ?_ (by decide) fun j hj => ⟨_, tg_n, ?_⟩) (e := dLst (cmpF a b)) (by rw [cmp_range rfl]))) (shp_rows _).sh (shp_row _).sh (hc a ha b hb)
    all_goals have hk1 : a.length ≤ 9 := by rw [oa.1]; exact hk.k9
    · omega
    · simp; omega
    · have hj : j < a.length := by simpa using hj
      exact ev_row (ev_var 7) (ev_row (ev_var 5) (ev_var 8) hj) (by rw [ob.1]; exact oa.2 _ (getD_mem hj))
  · refine q_asgX (ev_addX (ev_n 1) (ev_draw rfl (ev_n 5) (by omega) (by omega))) ?_
    rintro n ⟨m, hm, rfl⟩
    have h0 : 0 < 1 + m := by omega
    have h9 : 1 + m ≤ 9 := by omega
    generalize 1 + m = n at h0 h9 ⊢
    refine sx_ret (Ev.x (f := fun M : List (List Nat) => .list (M.map dLst)) (x := (List.range n).map fun x => (List.range n).map fun y => prodM kind n x y) (Ev.to (ev_lc0 (List.range n) dI (fun x => (List.range n).map fun y => prodM kind n x y) dLst (ei_r (ev_var 2) (by omega)) (by simp; omega) (by decide) fun x hx => ⟨_, tg_n, Ev.to (ev_lc0 (List.range n) dI (fun y => prodM kind n x y) dI (ei_r (ev_var 2) (by omega)) (by simp; omega) (by decide) fun y hy => ⟨_, tg_n, ?_⟩) rfl⟩) rfl) (tb_tab h0 h9 (fun x y hx hy => prod_lt hx hy) fun x y z hx hy hz => prod_as hx hy hz))
    exact ev_call4 (ev_var 1) (ev_var 2) (ev_var 4) (ev_var 6) ⟨kind, n, x, y, rfl, h0, rfl⟩
end
end KK
/-! M05: linked pairs, their turns. -/
namespace KK
open PySem PySem.Spec PyProof.Rows L2
theorem putK_old {κ : Type} [DecidableEq κ] {kvs : List (κ × V)} {k : κ} {u : V} (v : V) (h : valV kvs k = some u) : (putK kvs k v).length = kvs.length := by
  unfold putK
  rw [valV_any, h]
  rw [if_pos (by rfl), List.length_map]
/-! ### folds -/
theorem fold_inv {α β : Type} {f : β → α → β} {I : β → Prop} : ∀ (l : List α) (s : β), (∀ a ∈ l, ∀ s, I s → I (f s a)) → I s → I (l.foldl f s)
  | [], _, _, h => h
  | a :: l, s, hs, h => fold_inv l (f s a) (fun b hb => hs b (List.mem_cons_of_mem _ hb)) (hs a (by simp) s h)
theorem fold_hit {α β : Type} {f : β → α → β} {I J : β → Prop} {a : α} : ∀ (l : List α) (s : β), (∀ a ∈ l, ∀ s, I s → I (f s a)) → (∀ a ∈ l, ∀ s, I s → J s → J (f s a)) → a ∈ l → (∀ s, I s → J (f s a)) → I s → J (l.foldl f s)
  | b :: l, s, hI, hJ, ha, hh, h => by
    rcases List.mem_cons.mp ha with z | z
    · subst z
      exact (fold_inv (I := fun s => I s ∧ J s) l (f s a) (fun c hc s ⟨h1, h2⟩ => ⟨hI c (List.mem_cons_of_mem _ hc) s h1, hJ c (List.mem_cons_of_mem _ hc) s h1 h2⟩) ⟨hI a (by simp) s h, hh s h⟩).2
    · exact fold_hit l (f s b) (fun c hc => hI c (List.mem_cons_of_mem _ hc)) (fun c hc => hJ c (List.mem_cons_of_mem _ hc)) z hh (hI b (by simp) s h)
theorem fold_same {α β : Type} {f : β → α → β} {s : β} : ∀ (l : List α), (∀ a ∈ l, f s a = s) → l.foldl f s = s
  | [], _ => rfl
  | a :: l, h => by rw [List.foldl_cons, h a (by simp)]; exact fold_same l fun b hb => h b (List.mem_cons_of_mem _ hb)
/-! ### linked pairs -/
def Lk (M : List (List Nat)) (p : Nat × Nat) : Prop := p.1 < M.length ∧ p.2 < M.length ∧ mu M p.1 p.2 = p.1 ∧ mu M p.2 p.2 = p.2
def oth (M : List (List Nat)) (p : Nat × Nat) (x y : Nat) : Nat × Nat := (mu M p.1 x, mu M y x)
theorem lnk_iff {M : List (List Nat)} {p : Nat × Nat} : p ∈ lnkM M ↔ Lk M p := by
  constructor
  · intro h
    obtain ⟨s, hs, hp⟩ := List.mem_flatMap.mp h
    obtain ⟨f, hf, rfl⟩ := List.mem_map.mp hp
    obtain ⟨h1, h2⟩ := List.mem_filter.mp hf
    simp only [Bool.and_eq_true, decide_eq_true_eq] at h2
    exact ⟨by simpa using hs, by simpa using h1, h2.1, h2.2⟩
  · intro ⟨h1, h2, h3, h4⟩
    refine List.mem_flatMap.mpr ⟨p.1, by simpa using h1, List.mem_map.mpr ⟨p.2, List.mem_filter.mpr ⟨by simpa using h2, ?_⟩, rfl⟩⟩
    simp [h3, h4]
theorem nodup_range (n : Nat) : (List.range n).Nodup := List.nodup_range
theorem lnkS_fst {M : List (List Nat)} {s : Nat} {p : Nat × Nat} (h : p ∈ lnkS M s) : p.1 = s := by
  obtain ⟨f, _, rfl⟩ := List.mem_map.mp h
  rfl
theorem flat_nodup {α β : Type} {f : α → List β} {g : β → α} : ∀ (l : List α), l.Nodup → (∀ a ∈ l, (f a).Nodup) → (∀ a ∈ l, ∀ b ∈ f a, g b = a) → (l.flatMap f).Nodup
  | [], _, _, _ => by simp
  | a :: l, hn, h1, h2 => by
    rw [List.flatMap_cons, List.nodup_append]
    rw [List.nodup_cons] at hn
    refine ⟨h1 a (by simp), flat_nodup l hn.2 (fun b hb => h1 b (List.mem_cons_of_mem _ hb)) (fun b hb => h2 b (List.mem_cons_of_mem _ hb)), fun x hx y hy e => ?_⟩
    subst e
    obtain ⟨b, hb, hxb⟩ := List.mem_flatMap.mp hy
    have e1 := h2 a (by simp) x hx
    have e2 := h2 b (List.mem_cons_of_mem _ hb) x hxb
    rw [e1] at e2
    exact hn.1 (e2 ▸ hb)
theorem lnk_nodup (M : List (List Nat)) : (lnkM M).Nodup := by
  refine flat_nodup (g := Prod.fst) _ (nodup_range _) (fun s _ => ?_) fun s _ p hp => lnkS_fst hp
  unfold lnkS
  rw [List.Nodup, List.pairwise_map]
  exact List.Pairwise.imp (fun h e => h (by injection e)) ((nodup_range _).sublist List.filter_sublist)
theorem lnkM_len' {M : List (List Nat)} (h : M.length ≤ 9) : (lnkM M).length ≤ 81 := by
  have h1 := lnkM_len M M.length
  rw [List.take_of_length_le (by simp)] at h1
  have h81 : M.length * M.length ≤ 9 * 9 := Nat.mul_le_mul h h
  unfold lnkM
  omega
/-! ### turns -/
def Rt (M : List (List Nat)) (p q : Nat × Nat) : Prop := Lk M p ∧ Lk M q ∧ ∃ x y, x < M.length ∧ y < M.length ∧ mu M x y = p.2 ∧ oth M p x y = q
section
variable {M : List (List Nat)} (sq : Sq M) (as : Asc M) {p q r : Nat × Nat}
include sq as
theorem Rt.symm (h : Rt M p q) : Rt M q p := by
  obtain ⟨hp, hq, x, y, hx, hy, e, rfl⟩ := h
  refine ⟨hq, hp, y, x, hy, hx, rfl, ?_⟩
  show (mu M (mu M p.1 x) y, mu M x y) = p
  rw [as _ _ _ hp.1 hx hy, e, hp.2.2.1]
theorem Rt.trans (h : Rt M p q) (g : Rt M q r) : Rt M p r := by
  obtain ⟨hp, hq, x, y, hx, hy, e, rfl⟩ := h
  obtain ⟨_, hr, x', y', hx', hy', e', rfl⟩ := g
  have e' : mu M x' y' = mu M y x := e'
  have hxx := sq.lt hx hx'
  have hyy := sq.lt hy' hy
  refine ⟨hp, hr, mu M x x', mu M y' y, hxx, hyy, ?_, ?_⟩
  · rw [as _ _ _ hx hx' hyy, ← as _ _ _ hx' hy' hy, e', as _ _ _ hy hx hy, ← as _ _ _ hx hy (sq.lt hx hy), e, hp.2.2.2]
  · have h2 : mu M (mu M y' x') (mu M y' x') = mu M y' x' := hr.2.2.2
    show (mu M p.1 (mu M x x'), mu M (mu M y' y) (mu M x x')) = (mu M (mu M p.1 x) x', mu M y' x')
    have e1 : mu M (mu M y' y) (mu M x x') = mu M y' x' := by
      rw [as _ _ _ hy' hy hxx, ← as _ _ _ hy hx hx', ← e', as _ _ _ hx' hy' hx', ← as _ _ _ hy' hx' (sq.lt hy' hx'), h2]
    rw [e1, as _ _ _ hp.1 hx hx']
end
/-- one look at a pair -/
def stepT (M : List (List Nat)) (P : List (Nat × Nat)) (p : Nat × Nat) (x : Nat) (lab : Nat × Nat → Nat) (y : Nat) : Nat × Nat → Nat :=
  if mu M x y = p.2 ∧ oth M p x y ∈ P then fun r => if r = p ∨ r = oth M p x y then min (lab (oth M p x y)) (lab p) else lab r else lab
def colT (M : List (List Nat)) (P : List (Nat × Nat)) (p : Nat × Nat) (lab : Nat × Nat → Nat) (x : Nat) : Nat × Nat → Nat := (List.range M.length).foldl (stepT M P p x) lab
def rowT (M : List (List Nat)) (P : List (Nat × Nat)) (lab : Nat × Nat → Nat) (p : Nat × Nat) : Nat × Nat → Nat := (List.range M.length).foldl (colT M P p) lab
def passT (M : List (List Nat)) (P : List (Nat × Nat)) (lab : Nat × Nat → Nat) : Nat × Nat → Nat := P.foldl (rowT M P) lab
def Stable (M : List (List Nat)) (lab : Nat × Nat → Nat) : Prop := ∀ p q, Rt M p q → lab q = lab p
theorem step_same {M : List (List Nat)} {lab : Nat × Nat → Nat} (h : Stable M lab) {p : Nat × Nat} (hp : p ∈ lnkM M) {x y : Nat} (hx : x < M.length) (hy : y < M.length) : stepT M (lnkM M) p x lab y = lab := by
  unfold stepT
  split
  · rename_i e
    have hr : Rt M p (oth M p x y) := ⟨lnk_iff.mp hp, lnk_iff.mp e.2, x, y, hx, hy, e.1, rfl⟩
    have e2 := h _ _ hr
    funext r
    by_cases z : r = p ∨ r = oth M p x y
    · rw [if_pos z, e2]
      rcases z with z | z
      · rw [z]; omega
      · rw [z, e2]; omega
    · rw [if_neg z]
  · rfl
theorem pass_same {M : List (List Nat)} {lab : Nat × Nat → Nat} (h : Stable M lab) : passT M (lnkM M) lab = lab :=
  fold_same _ fun p hp => fold_same _ fun x hx => fold_same _ fun y hy => step_same h hp (by simpa using hx) (by simpa using hy)
theorem rt_min {M : List (List Nat)} (lab : Nat × Nat → Nat) (p : Nat × Nat) : ∀ (v : Nat) (m : Nat × Nat), lab m ≤ v → Rt M p m → ∃ m, Rt M p m ∧ ∀ r, Rt M p r → lab m ≤ lab r := by
  intro v
  induction v with
  | zero => exact fun m hm h => ⟨m, h, fun r _ => by omega⟩
  | succ v ih =>
    intro m hm h
    by_cases z : ∃ r, Rt M p r ∧ lab r < lab m
    · obtain ⟨r, h1, h2⟩ := z
      exact ih r (by omega) h1
    · exact ⟨m, h, fun r hr => by
        by_cases y : lab r < lab m
        · exact absurd ⟨r, hr, y⟩ z
        · omega⟩
theorem pass_stable {M : List (List Nat)} (sq : Sq M) (as : Asc M) (lab0 : Nat × Nat → Nat) : Stable M (passT M (lnkM M) lab0) := by
  intro p q hpq
  obtain ⟨m, hm, mn⟩ := rt_min lab0 p (lab0 q) q (Nat.le_refl _) hpq
  -- all of m's class end with the same label
  have stepI : ∀ p' ∈ lnkM M, ∀ x ∈ List.range M.length, ∀ y ∈ List.range M.length, ∀ lab : Nat × Nat → Nat, (lab m = lab0 m ∧ ∀ r, Rt M m r → lab0 m ≤ lab r) → (stepT M (lnkM M) p' x lab y m = lab0 m ∧ ∀ r, Rt M m r → lab0 m ≤ stepT M (lnkM M) p' x lab y r) := by
    intro p' hp' x hx y hy lab ⟨i1, i2⟩
    unfold stepT
    split
    · rename_i e
      have hr : Rt M p' (oth M p' x y) := ⟨lnk_iff.mp hp', lnk_iff.mp e.2, x, y, by simpa using hx, by simpa using hy, e.1, rfl⟩
      generalize oth M p' x y = q' at hr
      refine ⟨?_, fun r hr2 => ?_⟩
      · show (if m = p' ∨ m = q' then min (lab q') (lab p') else lab m) = lab0 m
        split
        · rename_i z
          rcases z with z | z
          · have h1 := i2 q' (z ▸ hr)
            rw [← z, i1]
            omega
          · have h1 := i2 p' (z ▸ (hr.symm sq as))
            rw [← z, i1]
            omega
        · exact i1
      · show lab0 m ≤ (if r = p' ∨ r = q' then min (lab q') (lab p') else lab r)
        split
        · rename_i z
          rcases z with z | z
          · have h1 : Rt M m p' := z ▸ hr2
            have h2 := i2 p' h1
            have h3 := i2 q' (h1.trans sq as hr)
            omega
          · have h1 : Rt M m q' := z ▸ hr2
            have h2 := i2 q' h1
            have h3 := i2 p' (h1.trans sq as (hr.symm sq as))
            omega
        · exact i2 r hr2
    · exact ⟨i1, i2⟩
  have stepJ : ∀ r, Rt M m r → ∀ p' ∈ lnkM M, ∀ x ∈ List.range M.length, ∀ y ∈ List.range M.length, ∀ lab : Nat × Nat → Nat, (lab m = lab0 m ∧ ∀ r, Rt M m r → lab0 m ≤ lab r) → lab r = lab0 m → stepT M (lnkM M) p' x lab y r = lab0 m := by
    intro r hr p' hp' x hx y hy lab i j
    have h1 := (stepI p' hp' x hx y hy lab i).2 r hr
    unfold stepT at h1 ⊢
    split
    · rename_i e
      rw [if_pos e] at h1
      show (if r = p' ∨ r = oth M p' x y then min (lab (oth M p' x y)) (lab p') else lab r) = lab0 m
      have h1 : lab0 m ≤ (if r = p' ∨ r = oth M p' x y then min (lab (oth M p' x y)) (lab p') else lab r) := h1
      split
      · rename_i z
        rw [if_pos z] at h1
        rcases z with z | z
        · rw [← z, j] at h1 ⊢; omega
        · rw [← z, j] at h1 ⊢; omega
      · exact j
    · exact j
  have i0 : lab0 m = lab0 m ∧ ∀ r, Rt M m r → lab0 m ≤ lab0 r := ⟨rfl, fun r hr => mn r (hm.trans sq as hr)⟩
  have key : ∀ r, Rt M m r → passT M (lnkM M) lab0 r = lab0 m := fun r hr => by
    obtain ⟨h1, h2, x, y, hx, hy, e1, e2⟩ := id hr
    refine fold_hit (I := fun lab : Nat × Nat → Nat => lab m = lab0 m ∧ ∀ r, Rt M m r → lab0 m ≤ lab r) (J := fun lab : Nat × Nat → Nat => lab r = lab0 m) (a := m) (lnkM M) lab0 (fun p' hp' s hs => fold_inv _ _ (fun x hx s hs => fold_inv _ _ (fun y hy s hs => stepI p' hp' x hx y hy s hs) hs) hs)
      (fun p' hp' s hs hj => (fold_inv (I := fun lab : Nat × Nat → Nat => (lab m = lab0 m ∧ ∀ r, Rt M m r → lab0 m ≤ lab r) ∧ lab r = lab0 m) _ _ (fun x hx s hs => fold_inv (I := fun lab : Nat × Nat → Nat => (lab m = lab0 m ∧ ∀ r, Rt M m r → lab0 m ≤ lab r) ∧ lab r = lab0 m) _ _ (fun y hy s hs => ⟨stepI p' hp' x hx y hy s hs.1, stepJ r hr p' hp' x hx y hy s hs.1 hs.2⟩) hs) ⟨hs, hj⟩).2)
      (lnk_iff.mpr h1) (fun s hs => ?_) i0
    have hpm := lnk_iff.mpr h1
    refine fold_hit (I := fun lab : Nat × Nat → Nat => lab m = lab0 m ∧ ∀ r, Rt M m r → lab0 m ≤ lab r) (J := fun lab : Nat × Nat → Nat => lab r = lab0 m) (a := x) _ s (fun x hx s hs => fold_inv _ _ (fun y hy s hs => stepI m hpm x hx y hy s hs) hs)
      (fun x hx s hs hj => (fold_inv (I := fun lab : Nat × Nat → Nat => (lab m = lab0 m ∧ ∀ r, Rt M m r → lab0 m ≤ lab r) ∧ lab r = lab0 m) _ _ (fun y hy s hs => ⟨stepI m hpm x hx y hy s hs.1, stepJ r hr m hpm x hx y hy s hs.1 hs.2⟩) ⟨hs, hj⟩).2) (by simpa using hx) (fun s hs => ?_) hs
    refine fold_hit (I := fun lab : Nat × Nat → Nat => lab m = lab0 m ∧ ∀ r, Rt M m r → lab0 m ≤ lab r) (J := fun lab : Nat × Nat → Nat => lab r = lab0 m) (a := y) _ s (fun y hy s hs => stepI m hpm x (by simpa using hx) y hy s hs) (fun y hy s hs hj => stepJ r hr m hpm x (by simpa using hx) y hy s hs hj) (by simpa using hy) (fun s hs => ?_) hs
    unfold stepT
    rw [if_pos ⟨e1, by rw [e2]; exact lnk_iff.mpr h2⟩, e2]
    show (if r = m ∨ r = r then min (s r) (s m) else s r) = lab0 m
    rw [if_pos (Or.inr rfl), hs.1]
    have := hs.2 r hr
    omega
  have hmp := hm.symm sq as
  rw [key p hmp, key q (hmp.trans sq as hpq)]
theorem step_lt {M : List (List Nat)} {P : List (Nat × Nat)} {p : Nat × Nat} {x y b : Nat} {lab : Nat × Nat → Nat} (h : ∀ r ∈ P, lab r < b) (hp : p ∈ P) : ∀ r ∈ P, stepT M P p x lab y r < b := fun r hr => by
  unfold stepT
  split
  · show (if r = p ∨ r = oth M p x y then min (lab (oth M p x y)) (lab p) else lab r) < b
    split
    · have := h p hp
      omega
    · exact h r hr
  · exact h r hr
/-- what a law's reader is -/
structure Good (k : Nat) (r : Rd) : Prop where
  ok : Ok r.L r.M
  n : r.L.length = k
  as : Asc r.M
  nd : r.A.Nodup
  lk : ∀ p ∈ r.A, Lk r.M p
  al : r.A.length ≤ 81
  tu : ∀ p ∈ r.A, ∀ q, Rt r.M p q → q ∈ r.A
end KK
namespace KK
open PySem PySem.Spec PyProof.Rows L2
def DOk (M : List (List Nat)) (kvs : List (List L2.Key × V)) (lab : Nat × Nat → Nat) : Prop := kvs.length ≤ 81 ∧ ∀ p : Nat × Nat, valV kvs (kT [p.1, p.2]) = if p ∈ lnkM M then some (vN (lab p)) else none
theorem kT2_inj {p q : Nat × Nat} (h : kT [p.1, p.2] = kT [q.1, q.2]) : p = q := by
  have := kT_inj h
  simp only [List.cons.injEq, and_true] at this
  exact Prod.ext this.1 this.2
theorem DOk.put {M : List (List Nat)} {kvs : List (List L2.Key × V)} {lab : Nat × Nat → Nat} (h : DOk M kvs lab) {p q : Nat × Nat} {v : Nat} (hp : p ∈ lnkM M) (hq : q ∈ lnkM M) : DOk M (putK (putK kvs (kT [q.1, q.2]) (vN v)) (kT [p.1, p.2]) (vN v)) (fun r => if r = p ∨ r = q then v else lab r) := by
  obtain ⟨h1, h2⟩ := h
  have e1 : valV kvs (kT [q.1, q.2]) = some (vN (lab q)) := by rw [h2, if_pos hq]
  have e2 : ∃ u, valV (putK kvs (kT [q.1, q.2]) (vN v)) (kT [p.1, p.2]) = some u := by
    rw [valV_put]
    split
    · exact ⟨_, rfl⟩
    · exact ⟨_, by rw [h2, if_pos hp]⟩
  obtain ⟨u, e2⟩ := e2
  refine ⟨by rw [putK_old _ e2, putK_old _ e1]; exact h1, fun r => ?_⟩
  rw [valV_put, valV_put, h2]
  by_cases z1 : r = p
  · subst z1
    simp [hp]
  · rw [if_neg fun y => z1 (kT2_inj y)]
    by_cases z2 : r = q
    · subst z2
      simp [hq]
    · rw [if_neg fun y => z2 (kT2_inj y)]
      simp [z1, z2]
section
variable {c : Option Addr} {B : Bs} {Γ : List Sl} {te : TE} {tz : TS} {N : List Sl → Prop} {R : Hp → V → Prop} {i : Nat}
def IsTX (G : List (List L2.Key × V) → Prop) : Hp → V → Prop := fun F v => ∃ kvs, G kvs ∧ IsT kvs F v
theorem q_asgTX {G : List (List L2.Key × V) → Prop} (h : Ev B.c Γ te (IsTX G)) (k : ∀ kvs, G kvs → Sx B (Γ.set i (.o (IsT kvs))) tz N R) : Sx B Γ (tSeq (tAsg te (gName i)) tz) N R := fun F H σ E D dn dr =>
  h F H σ E.w E.env _ fun v F1 H1 s1 ⟨kvs, g, p⟩ => k kvs g F1 H1 _ ((E.step s1).setO fun F' e => Mn.up _ _ _ e p) D (fun Γ' F' H' σ' n e => dn Γ' F' H' σ' n (s1.f.trans e)) dr
end
section
variable {P : Program} {w : World} {K : PySem.W.Frag} {mg : Str → Option Value} {base : Heap}
abbrev sL_turns : Stmt := topS 23
abbrev nL_turns : List Str := ["_law_mul", "_law_pairs", "_law_names", "_law_k", "_law_fresh", "_law_s", "_law_f", "_law_x", "_law_y", "_law_other", "_law_low"]
theorem scL_turns : FnScope nL_turns ["_law_mul", "_law_pairs"] (defScope sL_turns) := ⟨rfl, rfl, rfl, by decide +kernel, rfl, by decide +kernel, by decide +kernel⟩
def GT (M : List (List Nat)) (kvs : List (List L2.Key × V)) : Prop := ∃ lab, DOk M kvs lab ∧ (∀ p ∈ lnkM M, lab p < (lnkM M).length) ∧ Stable M lab
def fs_turns : List PyData → (Hp → V → Prop) → Prop := fun ds R => ∃ M, ds = [dMat M, .list ((lnkM M).map dPr)] ∧ Sq M ∧ Asc M ∧ M.length ≤ 9 ∧ R = IsTX (GT M)
theorem ok_turns {f : Addr} {fd : FuncData} (Fn : Fun K "_law_turns" "_law_turns" sL_turns f fd) (T : Bt mg) : FnOk P w K mg base CX0 1 f fd ["_law_mul", "_law_pairs"] (spD fs_turns) := by
  refine fn_d Fn scL_turns (fun ds R h => by obtain ⟨M, rfl, _⟩ := h; rfl) (fun cdv A outer s H E hr => ⟨_, (pss_cons (ps_asg pe_dnewT (pgn 2 scL_turns.nd))
(pss_cons (ps_for PassesOwn.never rfl (pi_range1 (by rfl) T.range (pa_cons (pe_callB (lenK K) (by rfl) T.len PySem.boot_len (pa_cons (pv 1) pa_nil)) pa_nil)) (pgn 3 scL_turns.nd)
(pss_one (ps_dput (hu_of hr) (pv 2) (pe_ix (ixK K) (pv 1) (pv 3) (fun _ _ => rfl)) (pv 3) rfl)))
(pss_cons (ps_for PassesOwn.never rfl (pi_range1 (by rfl) T.range (pa_cons (pe_callB (lenK K) (by rfl) T.len PySem.boot_len (pa_cons (pv 1) pa_nil)) pa_nil)) (pgn 3 scL_turns.nd)
(pss_cons (ps_asg pe_int (pgn 4 scL_turns.nd))
(pss_cons (ps_for PassesOwn.never rfl (ilK K (pv 1)) (tgK K (n := 2) rfl (pgs_cons (pgn 5 scL_turns.nd) (pgs_cons (pgn 6 scL_turns.nd) pgs_nil)))
(pss_one (ps_for PassesOwn.never rfl (pi_range1 (by rfl) T.range (pa_cons (pe_callB (lenK K) (by rfl) T.len PySem.boot_len (pa_cons (pv 0) pa_nil)) pa_nil)) (pgn 7 scL_turns.nd)
(pss_one (ps_for PassesOwn.never rfl (pi_range1 (by rfl) T.range (pa_cons (pe_callB (lenK K) (by rfl) T.len PySem.boot_len (pa_cons (pv 0) pa_nil)) pa_nil)) (pgn 8 scL_turns.nd)
(pss_cons (ps_asg (pe_tup (pa_cons (pe_ix (ixK K) (pe_ix (ixK K) (pv 0) (pv 5) (fun _ _ => rfl)) (pv 7) (fun _ _ => rfl)) (pa_cons (pe_ix (ixK K) (pe_ix (ixK K) (pv 0) (pv 8) (fun _ _ => rfl)) (pv 7) (fun _ _ => rfl)) pa_nil))) (pgn 9 scL_turns.nd))
(pss_one (ps_if (PW.pt (pw_and (pt_cmpR op_eq (pe_ix (ixK K) (pe_ix (ixK K) (pv 0) (pv 7) (fun _ _ => rfl)) (pv 8) (fun _ _ => rfl)) (pv 6) (nomark _)) (pw_and (pt_cmp (pc_din (hu_of hr) (pv 9) (pv 2))) (pw_and1 (pt_cmpR op_ne (pe_dget (hu_of hr) (pv 2) (pv 9) (fun _ _ => rfl)) (pe_dget (hu_of hr) (pv 2) (pe_tup (pa_cons (pv 5) (pa_cons (pv 6) pa_nil))) (fun _ _ => rfl)) (nomark _))))))
(pss_cons (ps_asg (pe_callB (c_min rfl) (by rfl) T.min (by decide +kernel) (pa_cons (pe_dget (hu_of hr) (pv 2) (pv 9) (fun _ _ => rfl)) (pa_cons (pe_dget (hu_of hr) (pv 2) (pe_tup (pa_cons (pv 5) (pa_cons (pv 6) pa_nil))) (fun _ _ => rfl)) pa_nil))) (pgn 10 scL_turns.nd))
(pss_cons (ps_dput (hu_of hr) (pv 2) (pv 9) (pv 10) rfl)
(pss_cons (ps_dput (hu_of hr) (pv 2) (pe_tup (pa_cons (pv 5) (pa_cons (pv 6) pa_nil))) (pv 10) rfl)
(pss_one (ps_asg (pe_op op_add (pv 4) pe_int) (pgn 4 scL_turns.nd))))))
pss_nil))))))))
(pss_one (ps_if (pt_cmpR op_eq (pv 4) pe_int (nomark _))
(pss_one (ps_ret (pv 2)))
pss_nil)))))
(pss_one (ps_ret (pv 2)))))), ?_⟩)
  rintro F0 H0 ds R ⟨M, rfl, sq, as, hM, rfl⟩
  have hP := lnkM_len' hM
  have hl : ∀ {Γ : List Sl} {ta : TE}, EvD none Γ ta (.list ((lnkM M).map dPr)) → EvD none Γ (tCB (rLn K) (tCons ta tNil)) (dI (lnkM M).length) := fun h => Ev.to (ev_lenL h) (by rw [List.length_map])
  have hm : ∀ {Γ : List Sl} {ta : TE}, EvD none Γ ta (dMat M) → EvD none Γ (tCB (rLn K) (tCons ta tNil)) (dI M.length) := fun h => Ev.to (ev_lenT h) (by rw [List.length_map])
  have nk : ∀ i, (numG (fun p : Nat × Nat => kT [p.1, p.2]) ((lnkM M).take i)).length = ((lnkM M).take i).length := fun i => (numG_ok (fun p : Nat × Nat => kT [p.1, p.2]) (fun _ _ h => kT2_inj h) _ ((lnkM M).take i) rfl ((lnk_nodup M).sublist (List.take_sublist _ _))).1
  refine q_newT ?_
  refine q_for (ds := (List.range (lnkM M).length).map dI) (ei_r (hl (ev_var 1)) (by omega)) (fun i Γ' => ∃ s3, Γ' = [.d (dMat M), .d (.list ((lnkM M).map dPr)), .t (numG (fun p : Nat × Nat => kT [p.1, p.2]) ((lnkM M).take i)), s3, .u, .u, .u, .u, .u, .u, .u]) ⟨_, rfl⟩ ?_ ?_
  · rintro i d Γ' hd ⟨s3, rfl⟩
    obtain ⟨k, hk, rfl⟩ := map_at hd
    have hk1 : k = i := by
      have h1 := List.getElem?_eq_some_iff.mp hk
      obtain ⟨h1, h2⟩ := h1
      rw [List.getElem_range] at h2
      exact h2.symm
    subst hk1
    have hkl : k < (lnkM M).length := by simpa using List.mem_of_getElem? hk
    have hp : (lnkM M)[k]? = some ((lnkM M)[k]) := List.getElem?_eq_getElem hkl
    have hnk := nk k
    rw [take_snoc hp, numG_snoc]
    generalize numG (fun p : Nat × Nat => kT [p.1, p.2]) ((lnkM M).take k) = kvs at hnk ⊢
    rw [List.length_take, Nat.min_eq_left (by omega)] at hnk
    refine ⟨_, _, tg_n, sx_one (q_putT (l := [((lnkM M)[k]).1, ((lnkM M)[k]).2]) rfl (ev_var 3) (ev_ixL (ev_var 1) (ev_var 3) (by rw [List.getElem?_map, hp]; rfl)) (by omega) (sx_next ⟨.d (dI k), ?_⟩))⟩
    rw [hnk]
    rfl
  rintro Γ' ⟨s3, rfl⟩
  rw [List.length_map, List.length_range, List.take_length]
  obtain ⟨n1, n2⟩ := numG_ok (fun p : Nat × Nat => kT [p.1, p.2]) (fun _ _ h => kT2_inj h) _ (lnkM M) rfl (lnk_nodup M)
  have d0 : DOk M (numG (fun p : Nat × Nat => kT [p.1, p.2]) (lnkM M)) fun p => (lnkM M).idxOf p := ⟨by omega, n2⟩
  generalize numG (fun p : Nat × Nat => kT [p.1, p.2]) (lnkM M) = kvs0 at d0 ⊢
  have b0 : ∀ p ∈ lnkM M, (lnkM M).idxOf p < (lnkM M).length := fun p hp => List.idxOf_lt_length_of_mem hp
  refine q_for (ds := (List.range (lnkM M).length).map dI) (ei_r (hl (ev_var 1)) (by omega)) (fun i Γ' => ∃ kvs lab s3 s4 s5 s6 s7 s8 s9 s10, Γ' = [.d (dMat M), .d (.list ((lnkM M).map dPr)), .t kvs, s3, s4, s5, s6, s7, s8, s9, s10] ∧ DOk M kvs lab ∧ (∀ p ∈ lnkM M, lab p < (lnkM M).length) ∧ (0 < i → Stable M lab)) ⟨kvs0, _, _, _, _, _, _, _, _, _, rfl, d0, b0, fun z => by omega⟩ ?_ ?_
  · rintro i d Γ' hd ⟨kvs, lab, s3, s4, s5, s6, s7, s8, s9, s10, rfl, dk, bk, sk⟩
    obtain ⟨k, hk, rfl⟩ := map_at hd
    refine ⟨_, _, tg_n, q_asg (ev_n 0) ?_⟩
    refine q_for (ds := (lnkM M).map dPr) (ei_l (ev_var 1)) (fun j Γ' => ∃ kvs fr s5 s6 s7 s8 s9 s10, Γ' = [.d (dMat M), .d (.list ((lnkM M).map dPr)), .t kvs, .d (dI k), .d (dI fr), s5, s6, s7, s8, s9, s10] ∧ DOk M kvs (((lnkM M).take j).foldl (rowT M (lnkM M)) lab)) ⟨kvs, 0, _, _, _, _, _, _, rfl, dk⟩ ?_ ?_
    · rintro j d Γ' hd ⟨kvs, fr, s5, s6, s7, s8, s9, s10, rfl, dk⟩
      obtain ⟨p, hp, rfl⟩ := map_at hd
      have hpm := List.mem_of_getElem? hp
      obtain ⟨hp1, hp2, hp3, hp4⟩ := lnk_iff.mp hpm
      rw [take_snoc hp, List.foldl_append]
      generalize ((lnkM M).take j).foldl (rowT M (lnkM M)) lab = labp at dk ⊢
      refine ⟨_, _, tg_2, sx_one (q_for (ds := (List.range M.length).map dI) (ei_r (hm (ev_var 0)) (by omega)) (fun j Γ' => ∃ kvs fr s7 s8 s9 s10, Γ' = [.d (dMat M), .d (.list ((lnkM M).map dPr)), .t kvs, .d (dI k), .d (dI fr), .d (dI p.1), .d (dI p.2), s7, s8, s9, s10] ∧ DOk M kvs (((List.range M.length).take j).foldl (colT M (lnkM M) p) labp)) ⟨kvs, fr, _, _, _, _, rfl, dk⟩ ?_ ?_)⟩
      · rintro j d Γ' hd ⟨kvs, fr, s7, s8, s9, s10, rfl, dk⟩
        obtain ⟨x, hx, rfl⟩ := map_at hd
        have hxM : x < M.length := by simpa using List.mem_of_getElem? hx
        rw [take_snoc hx, List.foldl_append]
        generalize ((List.range M.length).take j).foldl (colT M (lnkM M) p) labp = labx at dk ⊢
        refine ⟨_, _, tg_n, sx_one (q_for (ds := (List.range M.length).map dI) (ei_r (hm (ev_var 0)) (by omega)) (fun j Γ' => ∃ kvs fr s8 s9 s10, Γ' = [.d (dMat M), .d (.list ((lnkM M).map dPr)), .t kvs, .d (dI k), .d (dI fr), .d (dI p.1), .d (dI p.2), .d (dI x), s8, s9, s10] ∧ DOk M kvs (((List.range M.length).take j).foldl (stepT M (lnkM M) p x) labx)) ⟨kvs, fr, _, _, _, rfl, dk⟩ ?_ ?_)⟩
        · rintro j d Γ' hd ⟨kvs, fr, s8, s9, s10, rfl, dk⟩
          obtain ⟨y, hy, rfl⟩ := map_at hd
          have hyM : y < M.length := by simpa using List.mem_of_getElem? hy
          rw [take_snoc hy, List.foldl_append]
          generalize ((List.range M.length).take j).foldl (stepT M (lnkM M) p x) labx = labz at dk ⊢
          have e0 : [y].foldl (stepT M (lnkM M) p x) labz = stepT M (lnkM M) p x labz y := rfl
          rw [e0]
          have vo : ∀ {q : Nat × Nat}, q ∈ lnkM M → valV kvs (kT [q.1, q.2]) = some (vN (labz q)) := fun hq => by rw [dk.2, if_pos hq]
          have hin : (valV kvs (kT [(oth M p x y).1, (oth M p x y).2])).isSome = decide (oth M p x y ∈ lnkM M) := by
            rw [dk.2]
            by_cases z : oth M p x y ∈ lnkM M
            · rw [if_pos z, decide_eq_true z]; rfl
            · rw [if_neg z, decide_eq_false z]; rfl
          refine ⟨_, _, tg_n, q_asg (d := dPr (oth M p x y)) (ev_t2 (ev_mu (ev_var 0) (ev_var 5) (ev_var 7) sq hp1 hxM) (ev_mu (ev_var 0) (ev_var 8) (ev_var 7) sq hyM hxM)) ?_⟩
          refine sx_if (b := decide (mu M x y = p.2) && (decide (oth M p x y ∈ lnkM M) && !decide (labz (oth M p x y) = labz p))) (et_and (et_test (ev_eq (ev_mu (ev_var 0) (ev_var 7) (ev_var 8) sq hxM hyM) (ev_var 6))) fun _ => et_and (et_B (Ev.to (ev_dinT (l := [(oth M p x y).1, (oth M p x y).2]) (ev_var 9) rfl) (by rw [hin]))) fun e2 => et_test (ev_ne (ev_dgetT (l := [(oth M p x y).1, (oth M p x y).2]) rfl (ev_var 9) (vo (of_decide_eq_true e2))) (ev_dgetT (l := [p.1, p.2]) rfl (ev_t2 (ev_var 5) (ev_var 6)) (vo hpm)))) (fun e => ?_) fun e => ?_
          · simp only [Bool.and_eq_true, Bool.not_eq_true', decide_eq_false_iff_not, decide_eq_true_eq] at e
            obtain ⟨e1, e2, e3⟩ := e
            refine q_asg (d := dI (min (labz (oth M p x y)) (labz p))) (ev_min (ev_dgetT (l := [(oth M p x y).1, (oth M p x y).2]) rfl (ev_var 9) (vo e2)) (ev_dgetT (l := [p.1, p.2]) rfl (ev_t2 (ev_var 5) (ev_var 6)) (vo hpm))) ?_
            have h81 := dk.1
            have hk2 := length_putK kvs (kT [(oth M p x y).1, (oth M p x y).2]) (vN (min (labz (oth M p x y)) (labz p)))
            refine q_putT (l := [(oth M p x y).1, (oth M p x y).2]) rfl (ev_var 10) (ev_var 9) (by omega) ?_
            refine q_putT (l := [p.1, p.2]) rfl (ev_var 10) (ev_t2 (ev_var 5) (ev_var 6)) (by omega) ?_
            refine sx_one (q_asg (ev_add (ev_var 4) (ev_n 1)) (sx_next ⟨_, fr + 1, _, _, _, rfl, ?_⟩))
            unfold stepT
            rw [if_pos ⟨e1, e2⟩]
            exact dk.put hpm e2
          · refine sx_next ⟨kvs, fr, _, _, _, rfl, ?_⟩
            have e9 : stepT M (lnkM M) p x labz y = labz := by
              unfold stepT
              split
              · rename_i z
                have e3 : labz (oth M p x y) = labz p := by simpa [z.1, z.2] using e
                funext r
                by_cases z2 : r = p ∨ r = oth M p x y
                · rw [if_pos z2, e3]
                  rcases z2 with z2 | z2
                  · rw [z2]; omega
                  · rw [z2, e3]; omega
                · rw [if_neg z2]
              · rfl
            rw [e9]
            exact dk
        · rintro Γ' ⟨kvs, fr, s8, s9, s10, rfl, dk⟩
          rw [List.length_map, List.take_length] at dk
          exact sx_next ⟨kvs, fr, _, _, _, _, rfl, dk⟩
      · rintro Γ' ⟨kvs, fr, s7, s8, s9, s10, rfl, dk⟩
        rw [List.length_map, List.take_length] at dk
        exact sx_next ⟨kvs, fr, _, _, _, _, _, _, rfl, dk⟩
    · rintro Γ' ⟨kvs, fr, s5, s6, s7, s8, s9, s10, rfl, dk⟩
      rw [List.length_map, List.take_length] at dk
      have st : Stable M ((lnkM M).foldl (rowT M (lnkM M)) lab) := pass_stable sq as lab
      have bk2 : ∀ p ∈ lnkM M, (lnkM M).foldl (rowT M (lnkM M)) lab p < (lnkM M).length := fold_inv (I := fun l : Nat × Nat → Nat => ∀ p ∈ lnkM M, l p < (lnkM M).length) _ _ (fun p hp s hs => fold_inv (I := fun l : Nat × Nat → Nat => ∀ p ∈ lnkM M, l p < (lnkM M).length) _ _ (fun x hx s hs => fold_inv (I := fun l : Nat × Nat → Nat => ∀ p ∈ lnkM M, l p < (lnkM M).length) _ _ (fun y hy s hs => step_lt hs hp) hs) hs) bk
      generalize (lnkM M).foldl (rowT M (lnkM M)) lab = lab2 at dk st bk2
      refine sx_if (et_test (ev_eq (ev_var 4) (ev_n 0))) (fun _ => ?_) fun _ => ?_
      · exact q_frzT 2 (sx_one (sx_ret ((ev_var 2).imp fun F v p => ⟨kvs, ⟨lab2, dk, bk2, st⟩, p⟩)))
      · exact sx_next ⟨kvs, lab2, _, _, _, _, _, _, _, _, rfl, dk, bk2, fun _ => st⟩
  · rintro Γ' ⟨kvs, lab, s3, s4, s5, s6, s7, s8, s9, s10, rfl, dk, bk, sk⟩
    rw [List.length_map, List.length_range] at sk
    have st : Stable M lab := by
      by_cases z : 0 < (lnkM M).length
      · exact sk z
      · intro p q h
        have := lnk_iff.mpr h.1
        rw [List.length_eq_zero_iff.mp (by omega : (lnkM M).length = 0)] at this
        cases this
    exact q_frzT 2 (sx_ret ((ev_var 2).imp fun F v p => ⟨kvs, ⟨lab, dk, bk, st⟩, p⟩))
end
end KK
namespace KK
open PySem PySem.Spec PyProof.Rows L2
/-- a table with its values mixed -/
def mixM (T : List (List Nat)) (N : List Nat) : List (List Nat) := (List.range T.length).map fun x => (List.range T.length).map fun y => N.getD (mu T (N.idxOf x) (N.idxOf y)) 0
theorem mix_ok {T : List (List Nat)} {N : List Nat} (h : KK.Tb T) (hN : N.Perm (List.range T.length)) : KK.Tb (mixM T N) := by
  have nd : N.Nodup := hN.nodup_iff.mpr (nodup_range _)
  have hl : N.length = T.length := by rw [hN.length_eq, List.length_range]
  have hm : ∀ {x : Nat}, x < T.length → x ∈ N := fun hx => hN.mem_iff.mpr (by simpa using hx)
  have hi : ∀ {x : Nat}, x < T.length → N.idxOf x < T.length := fun hx => by
    have := List.idxOf_lt_length_of_mem (hm hx)
    omega
  have hv : ∀ {x : Nat}, x < T.length → N.getD x 0 < T.length := fun {x} hx => by
    have := hN.mem_iff.mp (getD_mem (l := N) (i := x) (d := 0) (by omega))
    simpa using this
  have hb : ∀ {x : Nat}, x < T.length → N.idxOf (N.getD x 0) = x := fun {x} hx => by
    rw [List.getD_eq_getElem?_getD, List.getElem?_eq_getElem (by omega)]
    exact List.Nodup.idxOf_getElem nd x (by omega)
  refine tb_tab h.m h.m9 (fun x y hx hy => hv (h.sq.lt (hi hx) (hi hy))) fun x y z hx hy hz => ?_
  show N.getD (mu T (N.idxOf (N.getD _ 0)) _) 0 = N.getD (mu T _ (N.idxOf (N.getD _ 0))) 0
  rw [hb (h.sq.lt (hi hx) (hi hy)), hb (h.sq.lt (hi hy) (hi hz)), h.as _ _ _ (hi hx) (hi hy) (hi hz)]
theorem mix_len (T : List (List Nat)) (N : List Nat) : (mixM T N).length = T.length := by unfold mixM; simp
section
variable {P : Program} {w : World} {K : PySem.W.Frag} {mg : Str → Option Value} {base : Heap}
abbrev sL_reader : Stmt := topS 24
abbrev nL_reader : List Str := ["_law_state", "_law_count", "_law_table_here", "_law_size", "_law_names", "_law_back", "_law_mul", "_law_letters", "_law_pairs", "_law_turns_here", "_law_chosen", "_law_k", "_law_x", "_law_pair_here", "_law_y"]
theorem scL_reader : FnScope nL_reader ["_law_state", "_law_count"] (defScope sL_reader) := ⟨rfl, rfl, rfl, by decide +kernel, rfl, by decide +kernel, by decide +kernel⟩
def fs_reader : List PyData → (Hp → V → Prop) → Prop := fun ds R => ∃ k, ds = [dI k] ∧ 0 < k ∧ k ≤ 4 ∧ R = IsX (Good k) dRd
theorem ok_reader {f : Addr} {fd : FuncData} (Fn : Fun K "_law_reader" "_law_reader" sL_reader f fd) (T : Bt mg) (CL_draw : Cl P w K mg base 1 "_law_draw" ["_law_state", "_law_limit"] (spS (RlD fs_draw))) (CL_table : Cl P w K mg base 3 "_law_table" ["_law_state"] (spS (RlD fs_table)))
    (CL_mixed : Cl P w K mg base 2 "_law_mixed" ["_law_state", "_law_count"] (spS (RlD fs_mixed))) (CL_linked : Cl P w K mg base 1 "_law_linked" ["_law_mul"] (spD fs_linked)) (CL_turns : Cl P w K mg base 1 "_law_turns" ["_law_mul", "_law_pairs"] (spD fs_turns)) :
    FnOk P w K mg base CX0 4 f fd ["_law_state", "_law_count"] (spS (RlD fs_reader)) := by
  refine fn_s Fn scL_reader (fun ds R h => by obtain ⟨k, rfl, _⟩ := h; rfl) (fun cdv A outer s H E hr => ⟨_, (pss_cons (ps_asg (pe_c CL_table (hr.mono (by decide)) (pa_cons (pv 0) pa_nil)) (pgn 2 scL_reader.nd))
(pss_cons (ps_asg (pe_callB (lenK K) (by rfl) T.len PySem.boot_len (pa_cons (pv 2) pa_nil)) (pgn 3 scL_reader.nd))
(pss_cons (ps_asg (pe_c CL_mixed (hr.mono (by decide)) (pa_cons (pv 0) (pa_cons (pv 3) pa_nil))) (pgn 4 scL_reader.nd))
(pss_cons (ps_asg (pe_lc (own := [("_law_k", 11)]) rfl scL_reader.nd (pi_range1 (by rfl) T.range (pa_cons (pv 3) pa_nil)) (blkOk_by (by kernel_rfl)) (fun _ _ _ _ _ => (pgn 11 scL_reader.nd)) (fun _ _ _ _ _ => pts_nil) (fun _ _ _ _ _ => (bmK K PySem.F.plainAttrs_list PySem.F.slot_list_index PySem.F.type_list_index (indexK K (hu65 hr)) (pv 4) (pa_cons (pv 11) pa_nil)))) (pgn 5 scL_reader.nd))
(pss_cons (ps_asg (pe_callTy (tupleK K) (by rfl) T.tuple (by decide +kernel) (pa_cons (pe_lc (own := [("_law_x", 12)]) rfl scL_reader.nd (pi_range1 (by rfl) T.range (pa_cons (pv 3) pa_nil)) (blkOk_by (by kernel_rfl)) (fun _ _ _ _ _ => (pgn 12 scL_reader.nd)) (fun _ _ _ _ _ => pts_nil) (fun _ _ _ _ _ => (pe_callTy (tupleK K) (by rfl) T.tuple (by decide +kernel) (pa_cons (pe_lc (own := [("_law_y", 14)]) rfl scL_reader.nd (pi_range1 (by rfl) T.range (pa_cons (pv 3) pa_nil)) (blkOk_by (by kernel_rfl)) (fun _ _ _ _ _ => (pgn 14 scL_reader.nd)) (fun _ _ _ _ _ => pts_nil) (fun _ _ _ _ _ => (pe_ix (ixK K) (pv 4) (pe_ix (ixK K) (pe_ix (ixK K) (pv 2) (pe_ix (ixK K) (pv 5) (pv 12) (fun _ _ => rfl)) (fun _ _ => rfl)) (pe_ix (ixK K) (pv 5) (pv 14) (fun _ _ => rfl)) (fun _ _ => rfl)) (fun _ _ => rfl)))) pa_nil)))) pa_nil)) (pgn 6 scL_reader.nd))
(pss_cons (ps_asg (pe_callTy (tupleK K) (by rfl) T.tuple (by decide +kernel) (pa_cons (pe_lc (own := [("_law_k", 11)]) rfl scL_reader.nd (pi_range1 (by rfl) T.range (pa_cons (pv 1) pa_nil)) (blkOk_by (by kernel_rfl)) (fun _ _ _ _ _ => (pgn 11 scL_reader.nd)) (fun _ _ _ _ _ => pts_nil) (fun _ _ _ _ _ => (pe_c CL_draw (hr.mono (by decide)) (pa_cons (pv 0) (pa_cons (pv 3) pa_nil))))) pa_nil)) (pgn 7 scL_reader.nd))
(pss_cons (ps_asg (pe_c CL_linked (hr.mono (by decide)) (pa_cons (pv 6) pa_nil)) (pgn 8 scL_reader.nd))
(pss_cons (ps_asg (pe_c CL_turns (hr.mono (by decide)) (pa_cons (pv 6) (pa_cons (pv 8) pa_nil))) (pgn 9 scL_reader.nd))
(pss_cons (ps_asg (pe_lc (own := [("_law_k", 11)]) rfl scL_reader.nd (pi_range1 (by rfl) T.range (pa_cons (pe_callB (lenK K) (by rfl) T.len PySem.boot_len (pa_cons (pv 8) pa_nil)) pa_nil)) (blkOk_by (by kernel_rfl)) (fun _ _ _ _ _ => (pgn 11 scL_reader.nd)) (fun _ _ _ _ _ => pts_nil) (fun _ _ _ _ _ => (pe_c CL_draw (hr.mono (by decide)) (pa_cons (pv 0) (pa_cons pe_int pa_nil))))) (pgn 10 scL_reader.nd))
(pss_one (ps_ret (pe_tup (pa_cons (pv 7) (pa_cons (pv 6) (pa_cons (pe_callTy (tupleK K) (by rfl) T.tuple (by decide +kernel) (pa_cons (pe_lc (own := [("_law_pair_here", 13)]) rfl scL_reader.nd (ilK K (pv 8)) (blkOk_by (by kernel_rfl)) (fun _ _ _ _ _ => (pgn 13 scL_reader.nd)) (fun _ _ _ _ _ => (pts_one (pt_cmpR op_eq (pe_ix (ixK K) (pv 10) (pe_dget (hu_of hr) (pv 9) (pv 13) (fun _ _ => rfl)) (fun _ _ => rfl)) pe_int (nomark _)))) (fun _ _ _ _ _ => (pv 13))) pa_nil)) pa_nil))))))))))))))), ?_⟩)
  rintro p F0 H0 ds R ⟨k, rfl, hk0, hk4, rfl⟩
  refine q_asgX (ev_callS rfl ea_nil fun F vs p => ⟨[], all2_data (ds := []) p, rfl, rfl⟩) fun Tt hT => ?_
  have h9 := hT.m9
  have h0 := hT.m
  refine q_asg (Ev.to (ev_lenL (ev_var 2)) (e := dI Tt.length) (by rw [List.length_map])) ?_
  refine q_asgX (ev_callS rfl (ea_1 (ev_var 3)) fun F vs p => ⟨[dI Tt.length], all2_data (ds := [dI Tt.length]) p, Tt.length, rfl, by omega, rfl⟩) fun N hN => ?_
  have hl : N.length = Tt.length := by rw [hN.length_eq, List.length_range]
  have hm : ∀ {x : Nat}, x < Tt.length → x ∈ N := fun hx => hN.mem_iff.mpr (by simpa using hx)
  have hi : ∀ {x : Nat}, x < Tt.length → N.idxOf x < Tt.length := fun hx => by
    have := List.idxOf_lt_length_of_mem (hm hx)
    omega
  refine q_asg (Ev.to (ev_lc0 (List.range Tt.length) dI (fun k => N.idxOf k) dI (ei_r (ev_var 3) (by omega)) (by simp; omega) (by decide) fun x hx => ⟨_, tg_n, ?_⟩) (e := dLst ((List.range Tt.length).map fun k => N.idxOf k)) rfl) ?_
  · exact ev_idx (f := dI) (l := N) (x := x) eqi_n (ev_var 4) (ev_var 11) (shp_lst _).sh (shp_n _).sh (hm (by simpa using hx))
  have hB : ∀ {x : Nat}, x < Tt.length → ((List.range Tt.length).map fun k => N.idxOf k).getD x 0 = N.idxOf x := fun hx => gd_range _ _ hx
  have hBl : ((List.range Tt.length).map fun k => N.idxOf k).length = Tt.length := by simp
  refine q_asg (Ev.to (ev_tuL (ev_lc0 (List.range Tt.length) dI (fun x => (List.range Tt.length).map fun y => N.getD (mu Tt (N.idxOf x) (N.idxOf y)) 0) dRow (ei_r (ev_var 3) (by omega)) (by simp; omega) (by decide) fun x hx => ⟨_, tg_n, ev_tuL (Ev.to (ev_lc0 (List.range Tt.length) dI (fun y => N.getD (mu Tt (N.idxOf x) (N.idxOf y)) 0) dI (ei_r (ev_var 3) (by omega)) (by simp; omega) (by decide) fun y hy => ⟨_, tg_n, ?_⟩) rfl)⟩)) (e := dMat (mixM Tt N)) rfl) ?_
  · have hx : x < Tt.length := by simpa using hx
    have hy : y < Tt.length := by simpa using hy
    exact ev_rowL (ev_var 4) (ev_muL (ev_var 2) (Ev.to (ev_rowL (ev_var 5) (ev_var 12) (by omega)) (e := dI (N.idxOf x)) (by rw [hB hx])) (Ev.to (ev_rowL (ev_var 5) (ev_var 14) (by omega)) (e := dI (N.idxOf y)) (by rw [hB hy])) hT.sq (hi hx) (hi hy)) (by rw [hl]; exact hT.sq.lt (hi hx) (hi hy))
  have hM := mix_ok hT hN
  have hML := mix_len Tt N
  generalize mixM Tt N = M at hM hML ⊢
  refine q_asgX (f := fun L : List Nat => dRow L) (ev_tuX (ev_lcX (List.range k) dI dI (fun b => b < Tt.length) (ei_r (ev_var 1) (by omega)) (by simp; omega) (by decide) fun j hj => ⟨_, tg_n, ev_draw rfl (ev_var 3) h0 (by omega)⟩)) ?_
  rintro L ⟨hL1, hL2⟩
  rw [List.length_range] at hL1
  refine q_asg (ev_call1 (ev_var 6) ⟨M, rfl, hM.sq, hM.m9, rfl⟩) ?_
  refine q_asgTX (ev_call2 (ev_var 6) (ev_var 8) ⟨M, rfl, hM.sq, hM.as, hM.m9, rfl⟩) ?_
  rintro kvs ⟨lab, dk, bk, st⟩
  have hP := lnkM_len' hM.m9
  refine q_asgX (f := fun L : List Nat => dLst L) (ev_lcX (List.range (lnkM M).length) dI dI (fun b => b < 2) (ei_r (Ev.to (ev_lenL (ev_var 8)) (by rw [List.length_map])) (by omega)) (by simp; omega) (by decide) fun j hj => ⟨_, tg_n, ev_draw rfl (ev_n 2) (by omega) (by omega)⟩) ?_
  rintro ch ⟨hc1, hc2⟩
  rw [List.length_range] at hc1
  refine sx_ret (Ev.x (f := dRd) (x := ⟨L, M, (lnkM M).filter fun p => decide (ch.getD (lab p) 0 = 1)⟩) (ev_t3 (ev_var 7) (ev_var 6) (ev_tuL (Ev.to (ev_lc (lnkM M) dPr id dPr (fun p => decide (ch.getD (lab p) 0 = 1)) (ei_l (ev_var 8)) (by omega) (by decide) fun p hp => ⟨_, tg_n, et_test (ev_eq (ev_rowL (ev_var 10) (ev_fgetT (l := [p.1, p.2]) (ev_var 9) (ev_var 13) (by rw [dk.2, if_pos hp])) (by rw [hc1]; exact bk p hp)) (ev_n 1)), fun _ => ev_var 13⟩) (by rw [List.map_id])))) ?_)
  refine ⟨⟨by show 0 < L.length; omega, by show L.length ≤ 4; omega, hM.m, hM.m9, hM.sq, fun x hx => ?_⟩, hL1, hM.as, (lnk_nodup M).sublist List.filter_sublist, fun p hp => lnk_iff.mp (List.mem_filter.mp hp).1, ?_, fun p hp q hq => ?_⟩
  · show x < M.length
    rw [hML]
    exact hL2 x hx
  · exact Nat.le_trans (List.length_filter_le _ _) hP
  · have h1 := List.mem_filter.mp hp
    refine List.mem_filter.mpr ⟨lnk_iff.mpr hq.2.1, ?_⟩
    rw [st _ _ hq]
    exact h1.2
end
end KK
namespace KK
open PySem PySem.Spec PyProof.Rows L2
/-- what the law leans on, with no program in sight -/
structure PlainLaw : Prop where
  ord : ∀ k r, Good k r → OrdOk r.L r.M
  bt : ∀ k r, Good k r → TdOk r ∧ (tidyL r).A.length ≤ 81 ∧ (tidyL r).L.length ≤ 4 ∧ (tidyL r).M.length ≤ 9 ∧ (∀ x ∈ (tidyL r).L, x < (tidyL r).M.length) ∧ Sq (tidyL r).M
  eq : ∀ k r, Good k r → acM r = builtM r
  ac : ∀ k r u v, Good k r → k ≤ 3 → (acM r).st ≤ 25 → WordOk k 4 (u, v) → AcOk (acM r) u v
  tk : ∀ k r u v, Good k r → k ≤ 3 → (acM r).st ≤ 25 → WordOk k 4 (u, v) → takenM (acM r) u v = decide (pairM r.L r.M u v ∈ r.A)
section
variable {P : Program} {w : World} {K : PySem.W.Frag} {mg : Str → Option Value} {base : Heap}
theorem law_body (PL : PlainLaw) {p : Addr} {F0 H0 : Hp} : Sx ⟨some p, F0, H0⟩ [.u, .s, .u, .u, .u, .u, .u]
    (tSeq (tAsg (tOp (rI0 fun i j => .int (i + j)) (tC (.int 1)) (tCall (spS (RlD fs_draw)) [] E0 (tCons (tVar 1) (tCons (tC (.int 3)) tNil)))) (gName 2))
    (tSeq (tAsg (tCall (spS (RlD fs_reader)) [] E0 (tCons (tVar 1) (tCons (tVar 2) tNil))) (gName 3))
    (tSeq (tAsg (tCall (spD fs_acc) [] E0 (tCons (tVar 3) tNil)) (gName 4))
    (tSeq (tIfS (tTest (tOp (rNeD K) (tVar 4) (tCall (spD fs_built) [] E0 (tCons (tVar 3) tNil)))) (tRet (tC (.bl false))) tNext)
    (tSeq (tIfS (tTest (tOp (rI0 fun i j => .bl (decide (j < i))) (tOp (rIx K) (tVar 4) (tC (.int 1))) (tC (.int 25)))) (tRet (tC (.bl true))) tNext)
    (tSeq (tFor (iRng1 (tCons (tC (.int 3)) tNil)) (gName 5) (tSeq (tAsg (tCall (spS (RlD fs_word)) [] E0 (tCons (tVar 1) (tCons (tVar 2) (tCons (tC (.int 4)) tNil)))) (gName 6)) (tIfS (tTest (tOp rNe (tCall (spD fs_taken) [] E0 (tCons (tVar 4) (tCons (tVar 6) tNil))) (tCall (spD fs_accepts) [] E0 (tCons (tVar 3) (tCons (tVar 6) tNil))))) (tRet (tC (.bl false))) tNext)))
    (tRet (tC (.bl true)))))))))
    (fun _ => False) (IsD (.bool true)) := by
  refine q_asgX (ev_addX (ev_n 1) (ev_draw rfl (ev_n 3) (by omega) (by omega))) ?_
  rintro k ⟨j, hj, rfl⟩
  have hk0 : 0 < 1 + j := by omega
  have hk3 : 1 + j ≤ 3 := by omega
  generalize 1 + j = k at hk0 hk3 ⊢
  refine q_asgX (ev_callS rfl (ea_1 (ev_var 2)) fun F vs p => ⟨[dI k], all2_data (ds := [dI k]) p, k, rfl, hk0, by omega, rfl⟩) fun r hr => ?_
  obtain ⟨b1, b2, b3, b4, b5, b6⟩ := PL.bt k r hr
  have heq := PL.eq k r hr
  refine q_asg (ev_call1 (ev_var 3) ⟨r, rfl, hr.ok, PL.ord k r hr, hr.al, rfl⟩) ?_
  refine q_ifR (et_test (Ev.to (ev_neD (d := dAc (acM r)) (e := dAc (acM r)) (ev_var 4) (Ev.to (ev_call1 (ev_var 3) ⟨r, rfl, b1, b2, b3, b4, b5, b6, rfl⟩) (by rw [heq])) (shp_Ac _).sh (shp_Ac _).sh) (e := .bool false) (by rw [eqv_Ac]; rfl))) (fun e => by cases e) fun _ => ?_
  refine q_ifR (et_test (ev_gt (ev_pt 1 (ev_var 4)) (ev_n 25))) (fun _ => sx_one (sx_ret ev_bl)) fun e => ?_
  have hst : (acM r).st ≤ 25 := by
    have := of_decide_eq_false e
    omega
  refine q_for (ds := (List.range 3).map dI) (ei_r (ev_n 3) (by omega)) (fun i Γ' => ∃ s5 s6, Γ' = [.u, .s, .d (dI k), .d (dRd r), .d (dAc (acM r)), s5, s6]) ⟨_, _, rfl⟩ ?_ ?_
  · rintro i d Γ' hd ⟨s5, s6, rfl⟩
    obtain ⟨x, hx, rfl⟩ := map_at hd
    refine ⟨_, _, tg_n, q_asgX (ev_callS rfl (ea_2 (ev_var 2) (ev_n 4)) fun F vs p => ⟨[dI k, dI 4], all2_data (ds := [dI k, dI 4]) p, k, 4, rfl, hk0, by omega, by omega, by omega, rfl⟩) ?_⟩
    rintro ⟨u, v⟩ hw
    have ha := PL.ac k r u v hr hk3 hst hw
    have ht := PL.tk k r u v hr hk3 hst hw
    have hu : ∀ b ∈ u, b < r.L.length := fun b hb => by rw [hr.n]; exact hw.1.2.2 b hb
    have hv : ∀ b ∈ v, b < r.L.length := fun b hb => by rw [hr.n]; exact hw.2.2.2 b hb
    refine sx_if (et_test (Ev.to (ev_neB (a := takenM (acM r) u v) (b := decide (pairM r.L r.M u v ∈ r.A)) (ev_call2 (ev_var 4) (ev_var 6) ⟨acM r, u, v, rfl, ha, by show 1 ≤ 50; decide, rfl⟩) (ev_call2 (ev_var 3) (ev_var 6) ⟨r, u, v, rfl, hr.ok, ha.v0, hu, hv, rfl⟩)) (e := .bool false) (by rw [ht]; simp))) (fun e => by cases e) fun _ => sx_next ⟨_, _, rfl⟩
  · rintro Γ' ⟨s5, s6, rfl⟩
    exact sx_ret ev_bl
abbrev slaw : Stmt := topS 38
abbrev nlaw : List Str := ["_law_script", "_law_state", "_law_count", "_law_reader_here", "_law_acceptor", "_law_k", "_law_word_here"]
theorem sclaw : FnScope nlaw ["_law_script"] (defScope slaw) := ⟨rfl, rfl, rfl, by decide +kernel, rfl, by decide +kernel, by decide +kernel⟩
def spLaw (K : PySem.W.Frag) : Sp := fun vs H Q _ => ∃ (a : Addr) (ns : List Int), vs = [.ref a] ∧ ns.length ≤ 63 ∧ SqL K H a (ns.map V.int) ∧ ∀ H', Q (.bl true) H'
theorem ok_law (PL : PlainLaw) {f : Addr} {fd : FuncData} (Fn : Fun K "law" "law" slaw f fd) (T : Bt mg) (CL_draw : Cl P w K mg base 1 "_law_draw" ["_law_state", "_law_limit"] (spS (RlD fs_draw))) (CL_reader : Cl P w K mg base 4 "_law_reader" ["_law_state", "_law_count"] (spS (RlD fs_reader)))
    (Cacceptor_of : Cl P w K mg base 5 "acceptor_of" ["reader"] (spD fs_acc)) (CL_built : Cl P w K mg base 4 "_law_built" ["_law_reader_here"] (spD fs_built)) (CL_word : Cl P w K mg base 3 "_law_word" ["_law_state", "_law_count", "_law_most"] (spS (RlD fs_word)))
    (CL_taken : Cl P w K mg base 3 "_law_taken" ["_law_acceptor", "_law_word_here"] (spD fs_taken)) (CL_accepts : Cl P w K mg base 3 "_law_accepts" ["_law_reader_here", "_law_word_here"] (spD fs_accepts)) :
    FnOk P w K mg base CX0 6 f fd ["_law_script"] (spLaw K) := by
  refine Fn.ok sclaw (fun vs H Q E h => ?_) (fun cdv A outer s H vs Q E hr h => ?_)
  · obtain ⟨a, ns, rfl, _⟩ := h
    rfl
  · obtain ⟨a, ns, rfl, hl, hs, hq⟩ := h
    refine ⟨_, (pss_cons (ps_asg (pe_lst (pa_cons pe_int (pa_cons pe_int (pa_cons (pe_callTy (listK K) (by rfl) T.list (by decide +kernel) (pa_cons (pv 0) pa_nil)) (pa_cons pe_int pa_nil))))) (pgn 1 sclaw.nd))
(pss_cons (ps_asg (pe_op op_add pe_int (pe_c CL_draw (hr.mono (by decide)) (pa_cons (pv 1) (pa_cons pe_int pa_nil)))) (pgn 2 sclaw.nd))
(pss_cons (ps_asg (pe_c CL_reader (hr.mono (by decide)) (pa_cons (pv 1) (pa_cons (pv 2) pa_nil))) (pgn 3 sclaw.nd))
(pss_cons (ps_asg (pe_c Cacceptor_of (hr.mono (by decide)) (pa_cons (pv 3) pa_nil)) (pgn 4 sclaw.nd))
(pss_cons (ps_if (pt_cmpR (neDK K (hu64 hr)) (pv 4) (pe_c CL_built (hr.mono (by decide)) (pa_cons (pv 3) pa_nil)) (nomark _))
(pss_one (ps_ret pe_bl))
pss_nil)
(pss_cons (ps_if (pt_cmpR op_gt (pe_ix (ixK K) (pv 4) pe_int (fun _ _ => rfl)) pe_int (nomark _))
(pss_one (ps_ret pe_bl))
pss_nil)
(pss_cons (ps_for PassesOwn.never rfl (pi_range1 (by rfl) T.range (pa_cons pe_int pa_nil)) (pgn 5 sclaw.nd)
(pss_cons (ps_asg (pe_c CL_word (hr.mono (by decide)) (pa_cons (pv 1) (pa_cons (pv 2) (pa_cons pe_int pa_nil)))) (pgn 6 sclaw.nd))
(pss_one (ps_if (pt_cmpR op_ne (pe_c CL_taken (hr.mono (by decide)) (pa_cons (pv 4) (pa_cons (pv 6) pa_nil))) (pe_c CL_accepts (hr.mono (by decide)) (pa_cons (pv 3) (pa_cons (pv 6) pa_nil))) (nomark _))
(pss_one (ps_ret pe_bl))
pss_nil))))
(pss_one (ps_ret pe_bl))))))))), ?_⟩
    have est : L2.start nlaw [V.ref a] = [some (.ref a), none, none, none, none, none, none] := rfl
    rw [est]
    refine ⟨.ref a, rfl, a, ns.map V.int, rfl, .inl hs, fun l hfl => ⟨by show 4 ≤ sizeLine; decide, fun p hfp => ?_⟩⟩
    have hpl : p ≠ l := fun z => by
      subst z
      rw [upd_same] at hfp
      cases hfp
    have hF : (upd H l (.lst (ns.map V.int))) l = some (.lst (ns.map V.int)) := upd_same
    generalize upd H l (.lst (ns.map V.int)) = F1 at hfp hF ⊢
    have wf : Wf (some p) F1 (upd F1 p (.lst [.int 0, .int 0, .ref l, .int 1])) := ⟨same_new hfp, fun q z => by
      cases z
      exact ⟨hfp, 0, 0, 1, l, ns, upd_same, hF, by decide⟩⟩
    refine law_body (K := K) PL F1 _ _ ⟨Stp.refl wf, ⟨rfl, fun i s h => ?_, fun i j s1 s2 l h1 h2 c1 c2 h3 h4 => ?_⟩, fun i s l h1 h2 h3 => ?_⟩ _ (fun _ _ _ _ z => z.elim) fun v F' H' st pv => ?_
    · match i with
      | 0 => cases h; exact ⟨_, rfl, True.intro⟩
      | 1 => cases h; exact ⟨_, rfl, p, rfl, rfl⟩
      | 2 => cases h; exact ⟨_, rfl, True.intro⟩
      | 3 => cases h; exact ⟨_, rfl, True.intro⟩
      | 4 => cases h; exact ⟨_, rfl, True.intro⟩
      | 5 => cases h; exact ⟨_, rfl, True.intro⟩
      | 6 => cases h; exact ⟨_, rfl, True.intro⟩
      | n + 7 => cases h
    · match i with
      | 0 => cases h1; cases c1
      | 1 => cases h1; cases c1
      | 2 => cases h1; cases c1
      | 3 => cases h1; cases c1
      | 4 => cases h1; cases c1
      | 5 => cases h1; cases c1
      | 6 => cases h1; cases c1
      | n + 7 => cases h1
    · match i with
      | 0 => cases h1; cases h2
      | 1 => cases h1; cases h2
      | 2 => cases h1; cases h2
      | 3 => cases h1; cases h2
      | 4 => cases h1; cases h2
      | 5 => cases h1; cases h2
      | 6 => cases h1; cases h2
      | n + 7 => cases h1
    · have e := Dt.bl_eq pv
      subst e
      exact hq H'
end
end KK
/-! M06: sorted lists. -/
namespace KK
open PySem PySem.Spec PyProof.Rows L2
abbrev irow (b : Int × List Int) : List Int := b.1 :: b.2
theorem le_T (a b : Int × List Int) : PySem.W.dataLe false encT a b = decide (irow a ≤ irow b) := by
  have e1 : (encT a) = .tuple ((irow a).map .int) := rfl
  have e2 : (encT b) = .tuple ((irow b).map .int) := rfl
  show (!PySem.W.dataLt (encT b) (encT a)) = _
  rw [e1, e2, PySem.W.dataLt_tuple]
  show (!PySem.W.rowLt ((irow b).map .int) ((irow a).map .int)) = _
  rw [PySem.W.dataLt_ints]
  by_cases h : irow b < irow a
  · have h' : ¬ irow a ≤ irow b := fun r => List.not_lt.mpr r h
    simp [h, h']
  · have h' : irow a ≤ irow b := List.not_lt.mp h
    simp [h, h']
theorem le_T_trans (a b d : Int × List Int) (h1 : PySem.W.dataLe false encT a b = true) (h2 : PySem.W.dataLe false encT b d = true) : PySem.W.dataLe false encT a d = true := by
  rw [le_T] at h1 h2 ⊢
  exact decide_eq_true (List.le_trans (of_decide_eq_true h1) (of_decide_eq_true h2))
theorem le_T_total (a b : Int × List Int) : (PySem.W.dataLe false encT a b || PySem.W.dataLe false encT b a) = true := by
  rw [le_T, le_T]
  rcases List.le_total (irow a) (irow b) with h | h <;> simp [h]
theorem le_T_anti (a b : Int × List Int) (h1 : PySem.W.dataLe false encT a b = true) (h2 : PySem.W.dataLe false encT b a = true) : irow a = irow b := by
  rw [le_T] at h1 h2
  exact List.le_antisymm (of_decide_eq_true h1) (of_decide_eq_true h2)
theorem sorted_uniq {α : Type} {R : α → α → Prop} (anti : ∀ a b, R a b → R b a → a = b) : ∀ (l m : List α), l.Perm m → l.Pairwise R → m.Pairwise R → l = m
  | [], m, h, _, _ => (List.nil_perm.mp h).symm
  | a :: l, m, h, h1, h2 => by
    cases m with
    | nil => exact absurd h.symm (by simp)
    | cons b m =>
      rw [List.pairwise_cons] at h1 h2
      have e : a = b := by
        have ha : a ∈ b :: m := h.mem_iff.mp (by simp)
        have hb : b ∈ a :: l := h.mem_iff.mpr (by simp)
        rcases List.mem_cons.mp ha with z | z
        · exact z
        · rcases List.mem_cons.mp hb with y | y
          · exact y.symm
          · exact anti _ _ (h1.1 b y) (h2.1 a z)
      subst e
      rw [sorted_uniq anti l m (List.Perm.cons_inv h) h1.2 h2.2]
theorem srt_uniq {α : Type} (f : α → Int × List Int) (inj : ∀ a b, irow (f a) = irow (f b) → a = b) {l m : List α} (h : l.Perm m) : l.mergeSort (fun a b => PySem.W.dataLe false encT (f a) (f b)) = m.mergeSort (fun a b => PySem.W.dataLe false encT (f a) (f b)) := by
  have tr : ∀ a b d : α, PySem.W.dataLe false encT (f a) (f b) = true → PySem.W.dataLe false encT (f b) (f d) = true → PySem.W.dataLe false encT (f a) (f d) = true := fun a b d => le_T_trans _ _ _
  have to : ∀ a b : α, (PySem.W.dataLe false encT (f a) (f b) || PySem.W.dataLe false encT (f b) (f a)) = true := fun a b => le_T_total _ _
  refine sorted_uniq (R := fun a b => PySem.W.dataLe false encT (f a) (f b) = true) (fun a b h1 h2 => inj a b (le_T_anti _ _ h1 h2)) _ _ ?_ (List.pairwise_mergeSort tr to _) (List.pairwise_mergeSort tr to _)
  exact ((List.mergeSort_perm _ _).trans h).trans (List.mergeSort_perm _ _).symm
theorem srt3_perm {l m : List (Nat × Nat × Nat)} (h : l.Perm m) : srt3 l = srt3 m := srt_uniq f3 (fun a b e => by
  obtain ⟨a1, a2, a3⟩ := a
  obtain ⟨b1, b2, b3⟩ := b
  simp only [irow, f3, List.cons.injEq, and_true] at e
  obtain ⟨h1, h2, h3⟩ := e
  have h1 : a1 = b1 := by omega
  have h2 : a2 = b2 := by omega
  have h3 : a3 = b3 := by omega
  subst h1 h2 h3
  rfl) h
theorem f2_inj (a b : Nat × Nat) (e : irow (f2 a) = irow (f2 b)) : a = b := by
  obtain ⟨a1, a2⟩ := a
  obtain ⟨b1, b2⟩ := b
  simp only [irow, f2, List.cons.injEq, and_true] at e
  obtain ⟨h1, h2⟩ := e
  have h1 : a1 = b1 := by omega
  have h2 : a2 = b2 := by omega
  subst h1 h2
  rfl
theorem le2_of {a b : Nat × Nat} (h : a.1 < b.1 ∨ (a.1 = b.1 ∧ a.2 < b.2)) : PySem.W.dataLe false encT (f2 a) (f2 b) = true := by
  rw [le_T]
  refine decide_eq_true (List.le_of_lt (α := Int) ?_)
  show ((a.1 : Int) :: [(a.2 : Int)]) < ((b.1 : Int) :: [(b.2 : Int)])
  rw [List.cons_lt_cons_iff]
  rcases h with h | ⟨h1, h2⟩
  · exact Or.inl (by omega)
  · refine Or.inr ⟨by omega, ?_⟩
    rw [List.cons_lt_cons_iff]
    exact Or.inl (by omega)
/-- a list in order and a perm of it, sorted -/
theorem srt2_eq_of {l m : List (Nat × Nat)} (hl : l.Pairwise fun a b => a.1 < b.1 ∨ (a.1 = b.1 ∧ a.2 < b.2)) (h : l.Perm m) : srt2 m = l := by
  refine sorted_uniq (R := fun a b => PySem.W.dataLe false encT (f2 a) (f2 b) = true) (fun a b h1 h2 => f2_inj a b (le_T_anti _ _ h1 h2)) _ _ ?_ (List.pairwise_mergeSort (le := fun a b => PySem.W.dataLe false encT (f2 a) (f2 b)) (fun a b d => le_T_trans _ _ _) (fun a b => le_T_total _ _) _) (hl.imp fun h => le2_of h)
  exact (List.mergeSort_perm _ _).trans h.symm
theorem srt3_len (l : List (Nat × Nat × Nat)) : (srt3 l).length = l.length := (List.mergeSort_perm _ _).length_eq
theorem srt3_mem {l : List (Nat × Nat × Nat)} {x : Nat × Nat × Nat} : x ∈ srt3 l ↔ x ∈ l := (List.mergeSort_perm _ _).mem_iff
end KK
/-! M07: the values of words are found, in the order of their first words. -/
namespace KK
open PySem PySem.Spec PyProof.Rows L2
abbrev vls (o : List Wd) : List Nat := o.map Prod.fst
/-- all but the last letter is a word that stands before -/
def Pre (o : List Wd) : Prop := ∀ (j : Nat) (p : Wd), o[j]? = some p → ∀ w a, p.2 = w ++ [a] → w ≠ [] → w ∈ (o.take j).map Prod.snd
structure FI (L : List Nat) (M : List (List Nat)) (o nx : List Wd) : Prop where
  cl : ∀ x ∈ L, x ∈ vls o ∨ x ∈ vls nx
  cm : ∀ p ∈ o, ∀ a, a < L.length → mu M p.1 (L.getD a 0) ∈ vls o ∨ mu M p.1 (L.getD a 0) ∈ vls nx
  po : Pre o
  pn : ∀ p ∈ nx, ∀ w a, p.2 = w ++ [a] → w ≠ [] → w ∈ o.map Prod.snd
theorem insA_vals : ∀ (nx o : List Wd) (x : Nat), x ∈ vls o ∨ x ∈ vls nx → x ∈ vls (insA o nx)
  | [], o, x, h => by
    rcases h with h | h
    · exact h
    · cases h
  | p :: nx, o, x, h => by
    rw [insA_cons]
    refine insA_vals nx (ins o p) x ?_
    rcases h with h | h
    · exact Or.inl (ins_keys h)
    · rcases List.mem_cons.mp h with z | z
      · subst z
        refine Or.inl ?_
        unfold ins
        split
        · assumption
        · simp [vls]
      · exact Or.inr z
theorem insA_mem : ∀ (nx o : List Wd) (p : Wd), p ∈ insA o nx → p ∈ o ∨ p ∈ nx
  | [], o, p, h => Or.inl h
  | q :: nx, o, p, h => by
    rw [insA_cons] at h
    rcases insA_mem nx (ins o q) p h with z | z
    · unfold ins at z
      split at z
      · exact Or.inl z
      · rcases List.mem_append.mp z with y | y
        · exact Or.inl y
        · have : p = q := by simpa using y
          exact Or.inr (by simp [this])
    · exact Or.inr (List.mem_cons_of_mem _ z)
theorem insA_split (o nx : List Wd) : insA o nx = o ++ (insA o nx).drop o.length := by
  obtain ⟨e, he⟩ := insA_pre nx o
  rw [he]
  simp
theorem insA_new {o nx : List Wd} {p : Wd} (h : p ∈ (insA o nx).drop o.length) : p ∈ nx := by
  have key : ∀ (nx o : List Wd), ∃ e, insA o nx = o ++ e ∧ ∀ p ∈ e, p ∈ nx := by
    intro nx
    induction nx with
    | nil => exact fun o => ⟨[], by simp [insA], fun p z => by cases z⟩
    | cons q nx ih =>
      intro o
      rw [insA_cons]
      obtain ⟨e, he, hm⟩ := ih (ins o q)
      unfold ins at he ⊢
      split at he
      · rename_i z
        rw [if_pos z]
        exact ⟨e, he, fun p hp => List.mem_cons_of_mem _ (hm p hp)⟩
      · rename_i z
        rw [if_neg z]
        refine ⟨q :: e, by rw [he]; simp, fun p hp => ?_⟩
        rcases List.mem_cons.mp hp with y | y
        · simp [y]
        · exact List.mem_cons_of_mem _ (hm p y)
  obtain ⟨e, he, hm⟩ := key nx o
  rw [he] at h
  simp at h
  exact hm p h
theorem nxt_mem {L : List Nat} {M : List (List Nat)} {fr : List Wd} {p : Wd} : p ∈ nxt L M fr ↔ ∃ q ∈ fr, ∃ a, a < L.length ∧ p = (mu M q.1 (L.getD a 0), q.2 ++ [a]) := by
  unfold nxt
  rw [List.mem_flatMap]
  constructor
  · rintro ⟨q, hq, h⟩
    obtain ⟨a, ha, rfl⟩ := List.mem_map.mp h
    exact ⟨q, hq, a, by simpa using ha, rfl⟩
  · rintro ⟨q, hq, a, ha, rfl⟩
    exact ⟨q, hq, List.mem_map.mpr ⟨a, by simpa using ha, rfl⟩⟩
theorem FI.step {L : List Nat} {M : List (List Nat)} {o nx : List Wd} (h : FI L M o nx) : FI L M (insA o nx) (nxt L M ((insA o nx).drop o.length)) := by
  refine ⟨fun x hx => Or.inl (insA_vals nx o x (h.cl x hx)), fun p hp a ha => ?_, fun j p hj w a e hw => ?_, fun p hp w a e hw => ?_⟩
  · rw [insA_split] at hp
    rcases List.mem_append.mp hp with z | z
    · exact Or.inl (insA_vals nx o _ (h.cm p z a ha))
    · exact Or.inr (List.mem_map.mpr ⟨_, nxt_mem.mpr ⟨p, z, a, ha, rfl⟩, rfl⟩)
  · by_cases hjo : j < o.length
    · have e1 : (insA o nx)[j]? = o[j]? := by rw [insA_split, List.getElem?_append_left hjo]
      rw [e1] at hj
      have h2 := h.po j p hj w a e hw
      rw [insA_split, List.take_append_of_le_length (by omega)]
      exact h2
    · have e1 : p ∈ (insA o nx).drop o.length := by
        rw [insA_split, List.getElem?_append_right (by omega)] at hj
        exact List.mem_of_getElem? hj
      have h2 := h.pn p (insA_new e1) w a e hw
      obtain ⟨q, hq, rfl⟩ := List.mem_map.mp h2
      refine List.mem_map.mpr ⟨q, ?_, rfl⟩
      rw [insA_split, List.take_append]
      refine List.mem_append_left _ ?_
      rw [List.take_of_length_le (by omega)]
      exact hq
  · obtain ⟨q, hq, b, hb, rfl⟩ := nxt_mem.mp hp
    have e : q.2 ++ [b] = w ++ [a] := e
    have e2 := List.append_inj e (by have := congrArg List.length e; simp at this; exact this)
    rw [← e2.1]
    exact List.mem_map.mpr ⟨q, List.mem_of_mem_drop hq, rfl⟩
theorem run_ok {L : List Nat} {M : List (List Nat)} (ok : Ok L M) : ∀ (k kk : Nat) (o nx : List Wd), BI L M kk o → (∀ p ∈ nx, Gw L M kk p) → FI L M o nx → 10 ≤ o.length + k → kk + k ≤ 500 → BI L M 500 (runL L M k o nx) ∧ FI L M (runL L M k o nx) []
  | 0, kk, o, nx, bi, _, _, hk, _ => by
    have := bi.few ok
    omega
  | k + 1, kk, o, nx, bi, gn, fi, hk, hkk => by
    have b2 := BI.insA nx bi gn
    have f2 := fi.step
    unfold runL
    by_cases e : (nxt L M ((insA o nx).drop o.length)).length = 0
    · rw [if_pos e]
      rw [List.length_eq_zero_iff.mp e] at f2
      exact ⟨b2.mono (by omega), f2⟩
    · rw [if_neg e]
      refine run_ok ok k (kk + 1) _ _ (b2.mono (by omega)) (nxt_g fun p hp => b2.g p (List.mem_of_mem_drop hp)) f2 ?_ (by omega)
      rw [nxt_len] at e
      have h1 : (insA o nx).length = o.length + ((insA o nx).drop o.length).length := by
        conv => lhs; rw [insA_split]
        rw [List.length_append]
      have h2 : 0 < ((insA o nx).drop o.length).length := by
        rcases Nat.eq_zero_or_pos ((insA o nx).drop o.length).length with z | z
        · exact absurd (by rw [z]; simp) e
        · exact z
      omega
theorem ord_run {L : List Nat} {M : List (List Nat)} (ok : Ok L M) : BI L M 500 (ordL L M) ∧ FI L M (ordL L M) [] := by
  refine run_ok ok 400 1 [] (init L) ⟨List.nodup_nil, (fun p z => by cases z)⟩ init_g ⟨fun x hx => Or.inr ?_, (fun p z => by cases z), (fun j p hj => by simp at hj), fun p hp w a e hw => ?_⟩ (by simp) (by omega)
  · obtain ⟨i, hi, rfl⟩ := List.getElem_of_mem hx
    refine List.mem_map.mpr ⟨(L.getD i 0, [i]), List.mem_map.mpr ⟨i, by simpa using hi, rfl⟩, ?_⟩
    show L.getD i 0 = _
    rw [List.getD_eq_getElem?_getD, List.getElem?_eq_getElem hi]
    rfl
  · obtain ⟨i, hi, rfl⟩ := List.mem_map.mp hp
    have e : [i] = w ++ [a] := e
    have := congrArg List.length e
    simp at this
    exact absurd this hw
theorem ord_ok {k : Nat} {r : Rd} (g : Good k r) : OrdOk r.L r.M := by
  have ok := g.ok
  obtain ⟨bi, fi⟩ := ord_run ok
  have cl : ∀ x ∈ r.L, x ∈ ordV r.L r.M := fun x hx => by
    rcases fi.cl x hx with z | z
    · exact z
    · cases z
  have lt : ∀ x ∈ ordV r.L r.M, x < r.M.length := fun x hx => by
    obtain ⟨p, hp, rfl⟩ := List.mem_map.mp hx
    exact (bi.g p hp).lt ok
  have ca : ∀ x ∈ ordV r.L r.M, ∀ a, a < r.L.length → mu r.M x (r.L.getD a 0) ∈ ordV r.L r.M := fun x hx a ha => by
    obtain ⟨p, hp, rfl⟩ := List.mem_map.mp hx
    rcases fi.cm p hp a ha with z | z
    · exact z
    · cases z
  have cw : ∀ (n : Nat) (w : List Nat), w.length = n → w ≠ [] → (∀ b ∈ w, b < r.L.length) → ∀ x ∈ ordV r.L r.M, mu r.M x (wor r.L r.M w) ∈ ordV r.L r.M := by
    intro n
    induction n with
    | zero => exact fun w h h0 => absurd (List.length_eq_zero_iff.mp h) h0
    | succ n ih =>
      intro w hl h0 hw x hx
      obtain ⟨v, a, rfl⟩ : ∃ v a, w = v ++ [a] := ⟨w.dropLast, w.getLast h0, (List.dropLast_concat_getLast h0).symm⟩
      have ha : a < r.L.length := hw a (by simp)
      by_cases hv : v = []
      · subst hv
        exact ca x hx a ha
      · have hvw : ∀ b ∈ v, b < r.L.length := fun b hb => hw b (List.mem_append_left _ hb)
        rw [wor_snoc hv, ← g.as _ _ _ (lt x hx) (wor_lt ok hv hvw) (ok.at ha)]
        exact ca _ (ih v (by simpa using hl) hv hvw x hx) a ha
  refine ⟨bi, fi.po, cl, fun x hx y hy => ?_, g.as⟩
  obtain ⟨p, hp, rfl⟩ := List.mem_map.mp hy
  obtain ⟨h1, h2, h3, _⟩ := bi.g p hp
  rw [h3]
  exact cw _ p.2 rfl h1 h2 x hx
theorem td_ok {k : Nat} {r : Rd} (g : Good k r) : TdOk r := by
  have oo := ord_ok g
  refine ⟨g.ok, g.al, oo.bi.nd, fun x hx => ?_, oo.cl, oo.cm⟩
  obtain ⟨p, hp, rfl⟩ := List.mem_map.mp hx
  exact (oo.bi.g p hp).lt g.ok
end KK
/-! M08: the program's tidied reader is the law's. -/
namespace KK
open PySem PySem.Spec PyProof.Rows L2
theorem zi_of {α : Type} {l : List α} {i : Nat} {x : α} (h : l[i]? = some x) : (x, i) ∈ l.zipIdx := by
  refine List.mem_of_getElem? (i := i) ?_
  rw [List.getElem?_zipIdx, h]
  simp
theorem zi_inc {α : Type} (l : List α) : l.zipIdx.Pairwise fun a b => a.2 < b.2 := by
  rw [List.pairwise_iff_getElem]
  intro i j hi hj h
  simp only [List.getElem_zipIdx]
  omega
theorem mu_tidy {o : List Nat} {r : Rd} {i j : Nat} (hi : i < o.length) (hj : j < o.length) : mu (tidyO o r).M i j = num o (mu r.M (o.getD i 0) (o.getD j 0)) := by
  unfold mu tidyO
  show ((o.map fun x => o.map fun y => num o (mu r.M x y)).getD i []).getD j 0 = _
  have e1 : (o.map fun x => o.map fun y => num o (mu r.M x y)).getD i [] = o.map fun y => num o (mu r.M (o.getD i 0) y) := by
    rw [List.getD_eq_getElem?_getD, row_at _ hi]
    rfl
  rw [e1, List.getD_eq_getElem?_getD, row_at _ hj]
  rfl
theorem num_of {o : List Nat} (nd : o.Nodup) {i : Nat} (h : i < o.length) : num o (o.getD i 0) = i := by
  unfold num
  rw [List.getD_eq_getElem?_getD, List.getElem?_eq_getElem h]
  exact List.Nodup.idxOf_getElem nd i h
theorem num_inj {o : List Nat} {x y : Nat} (hx : x ∈ o) (hy : y ∈ o) (h : num o x = num o y) : x = y := by
  have h1 := num_at hx
  have h2 := num_at hy
  rw [h] at h1
  rw [← h1, h2]
abbrev Lex (a b : Nat × Nat) : Prop := a.1 < b.1 ∨ (a.1 = b.1 ∧ a.2 < b.2)
theorem accP_lex (o : List Nat) (r : Rd) : (accP o r).Pairwise Lex := by
  unfold accP
  rw [List.pairwise_flatMap]
  refine ⟨fun q hq => ?_, ?_⟩
  · rw [List.pairwise_map]
    exact (((zi_inc o).sublist List.filter_sublist).imp fun h => Or.inr ⟨rfl, h⟩)
  · refine (zi_inc o).imp fun h x hx y hy => ?_
    obtain ⟨q1, _, rfl⟩ := List.mem_map.mp hx
    obtain ⟨q2, _, rfl⟩ := List.mem_map.mp hy
    exact Or.inl h
theorem lex_nodup {l : List (Nat × Nat)} (h : l.Pairwise Lex) : l.Nodup := h.imp fun {a b} h e => by
  subst e
  rcases h with h | ⟨_, h⟩ <;> omega
theorem accP_mem {o : List Nat} {r : Rd} (nd : o.Nodup) (lk : ∀ p ∈ r.A, Lk r.M p) (p : Nat × Nat) : p ∈ accP o r ↔ p ∈ (r.A.filter fun p => decide (p.1 ∈ o) && decide (p.2 ∈ o)).map fun p => (num o p.1, num o p.2) := by
  unfold accP
  rw [List.mem_flatMap, List.mem_map]
  constructor
  · rintro ⟨q, hq, h⟩
    obtain ⟨q', hq', rfl⟩ := List.mem_map.mp h
    obtain ⟨h1, h2⟩ := List.mem_filter.mp hq'
    simp only [Bool.and_eq_true, decide_eq_true_eq] at h2
    obtain ⟨g1, g2⟩ := zi_mem hq
    obtain ⟨g3, g4⟩ := zi_mem h1
    have m1 := List.mem_of_getElem? g2
    have m2 := List.mem_of_getElem? g4
    refine ⟨(q.1, q'.1), List.mem_filter.mpr ⟨h2.2, by simp [m1, m2]⟩, ?_⟩
    have e1 : q.1 = o.getD q.2 0 := by rw [List.getD_eq_getElem?_getD, g2]; rfl
    have e2 : q'.1 = o.getD q'.2 0 := by rw [List.getD_eq_getElem?_getD, g4]; rfl
    show (num o q.1, num o q'.1) = (q.2, q'.2)
    rw [e1, e2, num_of nd g1, num_of nd g3]
  · rintro ⟨p, hp, rfl⟩
    obtain ⟨h1, h2⟩ := List.mem_filter.mp hp
    simp only [Bool.and_eq_true, decide_eq_true_eq] at h2
    obtain ⟨m1, m2⟩ := h2
    obtain ⟨l1, l2, l3, l4⟩ := lk p h1
    have a1 : o[num o p.1]? = some p.1 := by
      unfold num
      rw [List.getElem?_eq_getElem (List.idxOf_lt_length_of_mem m1), List.getElem_idxOf]
    have a2 : o[num o p.2]? = some p.2 := by
      unfold num
      rw [List.getElem?_eq_getElem (List.idxOf_lt_length_of_mem m2), List.getElem_idxOf]
    refine ⟨(p.1, num o p.1), zi_of a1, List.mem_map.mpr ⟨(p.2, num o p.2), List.mem_filter.mpr ⟨zi_of a2, ?_⟩, rfl⟩⟩
    simp only [Bool.and_eq_true, decide_eq_true_eq]
    rw [mu_tidy (num_lt m1) (num_lt m2), mu_tidy (num_lt m2) (num_lt m2), num_at m1, num_at m2, l3, l4]
    exact ⟨⟨rfl, rfl⟩, h1⟩
theorem accP_eq {o : List Nat} {r : Rd} (nd : o.Nodup) (lk : ∀ p ∈ r.A, Lk r.M p) (na : r.A.Nodup) : (tidyO o r).A = accP o r := by
  refine srt2_eq_of (accP_lex o r) ?_
  rw [List.perm_ext_iff_of_nodup (lex_nodup (accP_lex o r)) ?_]
  · exact accP_mem nd lk
  · rw [List.Nodup, List.pairwise_map]
    refine List.Pairwise.imp_of_mem ?_ (na.sublist (List.filter_sublist (p := fun p : Nat × Nat => decide (p.1 ∈ o) && decide (p.2 ∈ o))))
    intro p q hp hq ne e
    have h1 := (List.mem_filter.mp hp).2
    have h2 := (List.mem_filter.mp hq).2
    simp only [Bool.and_eq_true, decide_eq_true_eq] at h1 h2
    injection e with e1 e2
    exact ne (Prod.ext (num_inj h1.1 h2.1 e1) (num_inj h1.2 h2.2 e2))
theorem tidy_eq {k : Nat} {r : Rd} (g : Good k r) : tidyP r = tidyL r := by
  have oo := ord_ok g
  have e := accP_eq (o := ordV r.L r.M) (r := r) oo.bi.nd g.lk g.nd
  unfold tidyP tidyL
  rw [← e]
theorem bt_ok {k : Nat} {r : Rd} (g : Good k r) : TdOk r ∧ (tidyL r).A.length ≤ 81 ∧ (tidyL r).L.length ≤ 4 ∧ (tidyL r).M.length ≤ 9 ∧ (∀ x ∈ (tidyL r).L, x < (tidyL r).M.length) ∧ Sq (tidyL r).M := by
  have td := td_ok g
  have oo := ord_ok g
  have few := oo.bi.few g.ok
  have hol : (ordV r.L r.M).length = (ordL r.L r.M).length := by unfold ordV; rw [List.length_map]
  have hM : (tidyL r).M.length = (ordV r.L r.M).length := tidyO_len _ _
  refine ⟨td, ?_, ?_, by omega, fun x hx => ?_, tidyO_sq td.cm⟩
  · rw [← tidy_eq g]
    have h := accP_len (ordV r.L r.M) r
    have h81 : (ordV r.L r.M).length * (ordV r.L r.M).length ≤ 9 * 9 := Nat.mul_le_mul (by omega) (by omega)
    show (accP (ordV r.L r.M) r).length ≤ 81
    omega
  · show (r.L.map (num (ordV r.L r.M))).length ≤ 4
    rw [List.length_map]
    exact g.ok.n9
  · obtain ⟨y, hy, rfl⟩ := List.mem_map.mp hx
    rw [hM]
    exact num_lt (td.cl y hy)
end KK
/-! M09: the program's steps are the law's, in another order. -/
namespace KK
open PySem PySem.Spec PyProof.Rows L2
section
variable {α β γ : Type}
theorem flat_congr {f g : α → List β} : ∀ (l : List α), (∀ x ∈ l, (f x).Perm (g x)) → (l.flatMap f).Perm (l.flatMap g)
  | [], _ => by simp
  | x :: l, h => by
    rw [List.flatMap_cons, List.flatMap_cons]
    exact (h x (by simp)).append (flat_congr l fun y hy => h y (List.mem_cons_of_mem _ hy))
theorem flat_eq {f g : α → List β} : ∀ (l : List α), (∀ x ∈ l, f x = g x) → l.flatMap f = l.flatMap g
  | [], _ => rfl
  | x :: l, h => by rw [List.flatMap_cons, List.flatMap_cons, h x (by simp), flat_eq l fun y hy => h y (List.mem_cons_of_mem _ hy)]
theorem perm_4 (a b c d : List β) : (a ++ b ++ (c ++ d)).Perm (a ++ c ++ (b ++ d)) := by
  rw [List.append_assoc, List.append_assoc]
  refine List.Perm.append_left a ?_
  rw [← List.append_assoc, ← List.append_assoc]
  exact List.Perm.append_right d List.perm_append_comm
theorem flat_app (f g : α → List β) : ∀ (l : List α), (l.flatMap fun x => f x ++ g x).Perm (l.flatMap f ++ l.flatMap g)
  | [] => by simp
  | x :: l => by
    rw [List.flatMap_cons, List.flatMap_cons, List.flatMap_cons]
    exact (List.Perm.append_left _ (flat_app f g l)).trans (perm_4 _ _ _ _)
theorem flat_swap (f : α → γ → List β) (m : List γ) : ∀ (l : List α), (l.flatMap fun a => m.flatMap fun c => f a c).Perm (m.flatMap fun c => l.flatMap fun a => f a c)
  | [] => by
    have : (m.flatMap fun c => ([] : List α).flatMap fun a => f a c) = [] := by
      induction m with
      | nil => rfl
      | cons c m ih => rw [List.flatMap_cons, ih]; rfl
    rw [this]
    exact List.Perm.refl _
  | a :: l => by
    rw [List.flatMap_cons]
    have e : (m.flatMap fun c => (a :: l).flatMap fun a => f a c) = m.flatMap fun c => f a c ++ l.flatMap fun a => f a c := by
      congr 1
    rw [e]
    exact (List.Perm.append_left _ (flat_swap f m l)).trans (flat_app _ _ m).symm
theorem filter_flat (p : α → Bool) (f : α → β) : ∀ l : List α, (l.filter p).map f = l.flatMap fun x => if p x = true then [f x] else []
  | [] => rfl
  | x :: l => by
    rw [List.filter_cons, List.flatMap_cons, ← filter_flat p f l]
    by_cases h : p x = true
    · rw [if_pos h, if_pos h]; rfl
    · rw [if_neg h, if_neg h]; rfl
theorem zi_range (l : List α) (d : α) : l.zipIdx = (List.range l.length).map fun i => (l.getD i d, i) := by
  apply List.ext_getElem?
  intro i
  rw [List.getElem?_zipIdx, List.getElem?_map]
  by_cases h : i < l.length
  · rw [List.getElem?_range h, List.getElem?_eq_getElem h]
    simp [List.getD_eq_getElem?_getD, h]
  · rw [List.getElem?_eq_none (by omega), List.getElem?_eq_none (by simp; omega)]
    rfl
theorem zip_range (l : List α) (d : α) (g : Nat → β) : l.zip ((List.range l.length).map g) = (List.range l.length).map fun i => (l.getD i d, g i) := by
  apply List.ext_getElem?
  intro i
  by_cases h : i < l.length
  · rw [List.getElem?_map, List.getElem?_range h]
    have e : (l.zip ((List.range l.length).map g))[i]? = some (l[i], g i) := List.getElem?_zip_eq_some.mpr ⟨by simp [h], by simp [List.getElem?_range h]⟩
    rw [e]
    simp [List.getD_eq_getElem?_getD, h]
  · rw [List.getElem?_eq_none (by simp; omega), List.getElem?_eq_none (by simp; omega)]
end
def bP (t : Rd) (a st i : Nat) : List (Nat × Nat × Nat) := if (t.A.getD i (0, 0)).1 = goalM t a st then [(st, a, gateM t.M.length i)] else []
def bQ (t : Rd) (a st i : Nat) : List (Nat × Nat × Nat) := (gateM t.M.length i + st, a, gateM t.M.length i + 1 + goalM t a st) :: (if goalM t a st = (t.A.getD i (0, 0)).2 then [(gateM t.M.length i + st, a, gateM t.M.length i)] else [])
theorem bI_eq (t : Rd) (a st i : Nat) : bI t a st i = bP t a st i ++ bQ t a st i := by
  unfold bI bP bQ
  rw [List.append_assoc]
  congr 1
  have e : ((t.A.getD i (0, 0)).2 = goalM t a st) = (goalM t a st = (t.A.getD i (0, 0)).2) := propext ⟨Eq.symm, Eq.symm⟩
  simp only [e]
  rfl
theorem pA_perm (t : Rd) (a : Nat) : (pA t (t.L.getD a 0, a)).Perm (bA t a) := by
  have e1 : begM t.M (t.A.zip (gatesM t)) a (t.L.getD a 0) = (List.range (t.M.length + 1)).flatMap fun st => [(st, a, 1 + goalM t a st)] ++ (List.range t.A.length).flatMap (bP t a st) := by
    unfold begM gatesM
    rw [Nat.add_comm 1, zip_range t.A (0, 0)]
    congr 1
    funext st
    unfold begS
    rw [filter_flat, List.flatMap_map]
    show (st, a, 1 + goalM t a st) :: _ = (st, a, 1 + goalM t a st) :: _
    congr 1
    congr 1
    funext i
    unfold bP
    show (if decide ((t.A.getD i (0, 0)).1 = goalM t a st) = true then [(st, a, gateM t.M.length i)] else []) = _
    simp only [decide_eq_true_eq]
  have e2 : t.A.zipIdx.flatMap (pK t a (t.L.getD a 0)) = (List.range t.A.length).flatMap fun i => (List.range (t.M.length + 1)).flatMap fun st => bQ t a st i := by
    rw [zi_range t.A (0, 0), List.flatMap_map]
    refine flat_eq _ ?_
    intro i hi
    have hi : i < t.A.length := by simpa using hi
    unfold pK rndM gatesM
    rw [Nat.add_comm 1, gd_range _ _ hi]
    rfl
  unfold pA
  show (begM t.M (t.A.zip (gatesM t)) a (t.L.getD a 0) ++ t.A.zipIdx.flatMap (pK t a (t.L.getD a 0))).Perm _
  rw [e1, e2]
  refine (List.Perm.append_left _ (flat_swap (fun i st => bQ t a st i) _ _)).trans ((flat_app _ _ _).symm.trans ?_)
  refine flat_congr _ fun st _ => ?_
  unfold bS
  rw [List.append_assoc]
  refine List.Perm.cons _ ?_
  show ((List.range t.A.length).flatMap (bP t a st) ++ _).Perm _
  have e3 : (bI t a st) = fun i => bP t a st i ++ bQ t a st i := funext fun i => bI_eq t a st i
  rw [e3]
  exact (flat_app _ _ _).symm
theorem pAll_perm (t : Rd) : (pAll t).Perm (bAll t) := by
  unfold pAll bAll
  rw [zi_range t.L 0, List.flatMap_map]
  exact flat_congr _ fun a _ => pA_perm t a
theorem ac_eq {k : Nat} {r : Rd} (g : Good k r) : acM r = builtM r := by
  unfold acM builtM
  rw [tidy_eq g]
  unfold accM
  rw [srt3_perm (pAll_perm (tidyL r))]
/-- what the steps are -/
def StepB (t : Rd) (p a q : Nat) : Prop := a < t.L.length ∧ ∃ st, st < t.M.length + 1 ∧ ((p = st ∧ q = 1 + goalM t a st) ∨ ∃ i, i < t.A.length ∧ (((t.A.getD i (0, 0)).1 = goalM t a st ∧ p = st ∧ q = gateM t.M.length i) ∨
  (p = gateM t.M.length i + st ∧ q = gateM t.M.length i + 1 + goalM t a st) ∨ ((t.A.getD i (0, 0)).2 = goalM t a st ∧ p = gateM t.M.length i + st ∧ q = gateM t.M.length i)))
theorem step_iff (t : Rd) (p a q : Nat) : (p, a, q) ∈ bAll t ↔ StepB t p a q := by
  unfold bAll
  rw [List.mem_flatMap]
  constructor
  · rintro ⟨a', ha, h⟩
    unfold bA at h
    rw [List.mem_flatMap] at h
    obtain ⟨st, hs, h⟩ := h
    have ha : a' < t.L.length := by simpa using ha
    have hs : st < t.M.length + 1 := by simpa using hs
    unfold bS at h
    rcases List.mem_cons.mp h with h | h
    · injection h with h1 h2
      injection h2 with h2 h3
      subst h2
      exact ⟨ha, st, hs, Or.inl ⟨h1, h3⟩⟩
    · obtain ⟨i, hi, h⟩ := List.mem_flatMap.mp h
      have hi : i < t.A.length := by simpa using hi
      rw [bI_eq] at h
      rcases List.mem_append.mp h with h | h
      · unfold bP at h
        split at h
        · rename_i z
          have h := List.mem_singleton.mp h
          injection h with h1 h2
          injection h2 with h2 h3
          subst h2
          exact ⟨ha, st, hs, Or.inr ⟨i, hi, Or.inl ⟨z, h1, h3⟩⟩⟩
        · cases h
      · unfold bQ at h
        rcases List.mem_cons.mp h with h | h
        · injection h with h1 h2
          injection h2 with h2 h3
          subst h2
          exact ⟨ha, st, hs, Or.inr ⟨i, hi, Or.inr (Or.inl ⟨h1, h3⟩)⟩⟩
        · split at h
          · rename_i z
            have h := List.mem_singleton.mp h
            injection h with h1 h2
            injection h2 with h2 h3
            subst h2
            exact ⟨ha, st, hs, Or.inr ⟨i, hi, Or.inr (Or.inr ⟨z.symm, h1, h3⟩)⟩⟩
          · cases h
  · rintro ⟨ha, st, hs, h⟩
    have key : ∀ {x : Nat × Nat × Nat}, x ∈ bS t a st → ∃ a ∈ List.range t.L.length, x ∈ bA t a := fun {x} h3 => ⟨a, by simpa using ha, List.mem_flatMap.mpr ⟨st, by simpa using hs, h3⟩⟩
    have key2 : ∀ {i : Nat} {x : Nat × Nat × Nat}, i < t.A.length → x ∈ bP t a st i ++ bQ t a st i → x ∈ bS t a st := fun {i x} h1 h2 => List.mem_cons_of_mem _ (List.mem_flatMap.mpr ⟨i, by simpa using h1, by rw [bI_eq]; exact h2⟩)
    rcases h with ⟨rfl, rfl⟩ | ⟨i, hi, ⟨h, rfl, rfl⟩ | ⟨rfl, rfl⟩ | ⟨h, rfl, rfl⟩⟩
    · exact key (List.mem_cons_self ..)
    · exact key (key2 hi (List.mem_append_left _ (by unfold bP; rw [if_pos h]; simp)))
    · exact key (key2 hi (List.mem_append_right _ (by unfold bQ; simp)))
    · exact key (key2 hi (List.mem_append_right _ (by unfold bQ; rw [if_pos h.symm]; simp)))
theorem goal_lt {t : Rd} (sq : Sq t.M) (lt : ∀ x ∈ t.L, x < t.M.length) {a st : Nat} (ha : a < t.L.length) (hs : st < t.M.length + 1) : goalM t a st < t.M.length := by
  unfold goalM
  split
  · exact lt _ (getD_mem ha)
  · exact sq.lt (by omega) (lt _ (getD_mem ha))
theorem gate_lt {m n i : Nat} (h : i < n) : gateM m i + (m + 1) ≤ 1 + m + n * (m + 1) := by
  unfold gateM
  have h1 : (i + 1) * (m + 1) ≤ n * (m + 1) := Nat.mul_le_mul_right _ h
  rw [Nat.add_mul, Nat.one_mul] at h1
  omega
theorem stepB_lt {t : Rd} (sq : Sq t.M) (lt : ∀ x ∈ t.L, x < t.M.length) {p a q : Nat} (h : StepB t p a q) : q < 1 + t.M.length + t.A.length * (t.M.length + 1) := by
  obtain ⟨ha, st, hs, h⟩ := h
  have hg := goal_lt sq lt ha hs
  rcases h with ⟨rfl, rfl⟩ | ⟨i, hi, h⟩
  · omega
  · have := gate_lt (m := t.M.length) hi
    rcases h with ⟨h, rfl, rfl⟩ | ⟨rfl, rfl⟩ | ⟨h, rfl, rfl⟩ <;> omega
theorem ac_ok {k : Nat} {r : Rd} {u v : List Nat} (g : Good k r) (hk : k ≤ 3) (hst : (acM r).st ≤ 25) (hw : WordOk k 4 (u, v)) : AcOk (acM r) u v := by
  obtain ⟨td, b2, b3, b4, b5, b6⟩ := bt_ok g
  rw [ac_eq g] at hst ⊢
  obtain ⟨⟨_, hu, _⟩, hv0, hv, _⟩ := hw
  have hu : u.length ≤ 4 := hu
  have hv : v.length ≤ 4 := hv
  have hv0 : 1 ≤ v.length := hv0
  have hn : (tidyL r).L.length ≤ 3 := by
    show (r.L.map (num (ordV r.L r.M))).length ≤ 3
    rw [List.length_map, g.n]
    exact hk
  refine ⟨hst, by rw [List.length_append]; omega, fun z => by rw [z] at hv0; simp at hv0, ?_, fun x hx => ?_, fun q hq => ?_⟩
  · show (srt3 (bAll (tidyL r))).length ≤ 400
    rw [srt3_len, ← (pAll_perm (tidyL r)).length_eq]
    have hst : 1 + (tidyL r).M.length + (tidyL r).A.length * ((tidyL r).M.length + 1) ≤ 25 := hst
    generalize tidyL r = t at hn hst ⊢
    have h := pAll_len t t.L.length
    rw [List.take_of_length_le (by rw [List.length_zipIdx]; exact Nat.le_refl _)] at h
    have e1 : (1 + t.M.length) * (1 + t.A.length) = 1 + t.M.length + t.A.length * (t.M.length + 1) := by
      rw [Nat.mul_add, Nat.mul_one, Nat.mul_comm t.A.length, Nat.add_comm 1 t.M.length]
    have e2 : t.A.length * ((1 + t.M.length) * 2) = t.A.length * (t.M.length + 1) * 2 := by rw [← Nat.mul_assoc, Nat.add_comm 1]
    rw [e1, e2] at h
    have h3 : t.L.length * (1 + t.M.length + t.A.length * (t.M.length + 1) + t.A.length * (t.M.length + 1) * 2) ≤ 3 * 75 := Nat.mul_le_mul hn (by omega)
    have h4 : (pAll t).length ≤ 3 * 75 := Nat.le_trans h h3
    omega
  · have hx : x ∈ srt3 (bAll (tidyL r)) := hx
    rw [srt3_mem] at hx
    exact stepB_lt b6 b5 ((step_iff (tidyL r) x.1 x.2.1 x.2.2).mp hx)
  · have hq : q ∈ [0] := hq
    have : q = 0 := by simpa using hq
    subst this
    show 0 < 1 + _ + _
    omega
end KK
/-! M10: what is reached, is what a path leads to. -/
namespace KK
open PySem PySem.Spec PyProof.Rows L2
section
variable {a : Ac} {u v : List Nat}
/-- a path of so many steps -/
inductive Wk (a : Ac) (u v : List Nat) : Nat → Nat × Nat → Nat × Nat → Prop
  | nil (x : Nat × Nat) : Wk a u v 0 x x
  | snoc {n : Nat} {x y z : Nat × Nat} (h : Wk a u v n x y) (e : z ∈ nextM a u v y) : Wk a u v (n + 1) x z
theorem Wk.trans {n m : Nat} {x y z : Nat × Nat} (h : Wk a u v n x y) (g : Wk a u v m y z) : Wk a u v (n + m) x z := by
  induction g with
  | nil => exact h
  | snoc _ e ih => exact .snoc (ih h) e
theorem fold_step (P : Nat × Nat → Prop) : ∀ (l : List (Nat × Nat)) (s : List (Nat × Nat) × List (Nat × Nat)), (∀ x y, P x → y ∈ nextM a u v x → P y) → (∀ x ∈ s.1, P x) → (∀ x ∈ s.2, P x) → (∀ x ∈ l, P x) → (∀ x ∈ (l.foldl (stepR a u v) s).1, P x) ∧ ∀ x ∈ (l.foldl (stepR a u v) s).2, P x
  | [], s, _, h1, h2, _ => ⟨h1, h2⟩
  | nd :: l, s, hc, h1, h2, h3 => by
    have hn := h3 nd (by simp)
    refine fold_step P l (stepR a u v s nd) hc (fun x hx => ?_) (fun x hx => ?_) fun x hx => h3 x (List.mem_cons_of_mem _ hx)
    · unfold stepR at hx
      split at hx
      · exact h1 x hx
      · rcases List.mem_append.mp hx with z | z
        · exact h1 x z
        · have : x = nd := by simpa using z
          rw [this]; exact hn
    · unfold stepR at hx
      split at hx
      · exact h2 x hx
      · rcases List.mem_append.mp hx with z | z
        · exact h2 x z
        · exact hc nd x hn z
theorem reach_sound (P : Nat × Nat → Prop) (hc : ∀ x y, P x → y ∈ nextM a u v x → P y) : ∀ (k : Nat) (f l : List (Nat × Nat)), (∀ x ∈ f, P x) → (∀ x ∈ l, P x) → ∀ x ∈ reachN a u v k f l, P x
  | 0, f, l, h1, _ => h1
  | k + 1, f, l, h1, h2 => by
    obtain ⟨g1, g2⟩ := fold_step (a := a) (u := u) (v := v) P l (f, []) hc h1 (fun x z => by cases z) h2
    unfold reachN
    split
    · exact g1
    · exact reach_sound P hc k _ _ g1 g2
/-- what a fold over pending nodes has done -/
theorem fold_done : ∀ (l : List (Nat × Nat)) (s : List (Nat × Nat) × List (Nat × Nat)), (∃ e, (l.foldl (stepR a u v) s).1 = s.1 ++ e ∧ (∀ x ∈ e, ∀ y ∈ nextM a u v x, y ∈ (l.foldl (stepR a u v) s).2) ∧ (e = [] → (l.foldl (stepR a u v) s).2 = s.2)) ∧ (∀ x ∈ l, x ∈ (l.foldl (stepR a u v) s).1) ∧ (∀ x ∈ s.2, x ∈ (l.foldl (stepR a u v) s).2)
  | [], s => ⟨⟨[], by simp, (fun x z => by cases z), fun _ => rfl⟩, (fun x z => by cases z), fun x hx => hx⟩
  | nd :: l, s => by
    obtain ⟨⟨e, e1, e2, e3⟩, g1, g2⟩ := fold_done l (stepR a u v s nd)
    show (∃ e', (l.foldl (stepR a u v) (stepR a u v s nd)).1 = s.1 ++ e' ∧ _) ∧ _
    have hfold : (nd :: l).foldl (stepR a u v) s = l.foldl (stepR a u v) (stepR a u v s nd) := rfl
    rw [hfold]
    generalize l.foldl (stepR a u v) (stepR a u v s nd) = R at e1 e2 e3 g1 g2 ⊢
    unfold stepR at e1 e3 g2
    by_cases m : nd ∈ s.1
    · rw [if_pos m] at e1 e3 g2
      refine ⟨⟨e, e1, e2, e3⟩, fun x hx => ?_, g2⟩
      rcases List.mem_cons.mp hx with z | z
      · rw [z, e1]; exact List.mem_append_left _ m
      · exact g1 x z
    · rw [if_neg m] at e1 e3 g2
      refine ⟨⟨nd :: e, by rw [e1]; simp, fun x hx y hy => ?_, fun z => by cases z⟩, fun x hx => ?_, fun x hx => g2 x (List.mem_append_left _ hx)⟩
      · rcases List.mem_cons.mp hx with z | z
        · subst z
          exact g2 y (List.mem_append_right _ hy)
        · exact e2 x z y hy
      · rcases List.mem_cons.mp hx with z | z
        · rw [z, e1]; simp
        · exact g1 x z
theorem reach_full (ok : AcOk a u v) : ∀ (k : Nat) (f l : List (Nat × Nat)), RI a u v (f, []) → (∀ x ∈ l, Vd (u ++ v).length a.st x) → (∀ x ∈ f, ∀ y ∈ nextM a u v x, y ∈ f ∨ y ∈ l) → 201 ≤ f.length + k →
    (∀ x ∈ f, x ∈ reachN a u v k f l) ∧ (∀ x ∈ l, x ∈ reachN a u v k f l) ∧ ∀ x ∈ reachN a u v k f l, ∀ y ∈ nextM a u v x, y ∈ reachN a u v k f l
  | 0, f, l, ri, _, _, hk => by
    have := ri.few ok
    have : f.length ≤ 200 := this
    omega
  | k + 1, f, l, ri, hl, hc, hk => by
    have r2 := ri.fold ok l hl
    obtain ⟨⟨e, e1, e2, e3⟩, g1, _⟩ := fold_done (a := a) (u := u) (v := v) l (f, [])
    have e1 : (l.foldl (stepR a u v) (f, [])).1 = f ++ e := e1
    have e3 : e = [] → (l.foldl (stepR a u v) (f, [])).2 = [] := e3
    unfold reachN
    generalize l.foldl (stepR a u v) (f, []) = R at r2 e1 e2 e3 g1 ⊢
    have cl : ∀ x ∈ R.1, ∀ y ∈ nextM a u v x, y ∈ R.1 ∨ y ∈ R.2 := fun x hx y hy => by
      rw [e1] at hx
      rcases List.mem_append.mp hx with z | z
      · rcases hc x z y hy with w | w
        · left; rw [e1]; exact List.mem_append_left _ w
        · exact Or.inl (g1 y w)
      · exact Or.inr (e2 x z y hy)
    by_cases z : R.2.length = 0
    · rw [if_pos z]
      refine ⟨fun x hx => by rw [e1]; exact List.mem_append_left _ hx, g1, fun x hx y hy => ?_⟩
      rcases cl x hx y hy with w | w
      · exact w
      · rw [List.length_eq_zero_iff.mp z] at w
        cases w
    · rw [if_neg z]
      have he : 0 < e.length := by
        rcases Nat.eq_zero_or_pos e.length with y | y
        · exact absurd (by rw [e3 (List.length_eq_zero_iff.mp y)]; rfl) z
        · exact y
      obtain ⟨h1, h2, h3⟩ := reach_full ok k R.1 R.2 (RI.restart (h := R.2) r2) r2.vh cl (by rw [e1, List.length_append]; omega)
      exact ⟨fun x hx => h1 x (by rw [e1]; exact List.mem_append_left _ hx), fun x hx => h1 x (g1 x hx), h3⟩
theorem reach_iff (ok : AcOk a u v) {nodes : List (Nat × Nat)} (hn : ∀ x ∈ nodes, Vd (u ++ v).length a.st x) (x : Nat × Nat) : x ∈ reachM a u v nodes ↔ ∃ n y, y ∈ nodes ∧ Wk a u v n y x := by
  unfold reachM
  constructor
  · exact reach_sound (fun x => ∃ n y, y ∈ nodes ∧ Wk a u v n y x) (fun x z ⟨n, y, h1, h2⟩ e => ⟨n + 1, y, h1, .snoc h2 e⟩) 400 [] nodes (fun x z => by cases z) (fun x hx => ⟨0, x, hx, .nil x⟩) x
  · rintro ⟨n, y, hy, h⟩
    obtain ⟨_, h2, h3⟩ := reach_full ok 400 [] nodes ⟨List.nodup_nil, (fun x z => by cases z), (fun x z => by cases z), by simp⟩ hn (fun x z => by cases z) (by simp)
    induction h with
    | nil => exact h2 _ hy
    | snoc _ e ih => exact h3 _ (ih hy) _ e
theorem wk_vd (ok : AcOk a u v) {n : Nat} {x y : Nat × Nat} (h : Wk a u v n x y) (hx : Vd (u ++ v).length a.st x) : Vd (u ++ v).length a.st y := by
  induction h with
  | nil => exact hx
  | snoc _ e ih => exact next_vd ok (ih hx).1 _ e
theorem taken_iff (ok : AcOk a u v) (hfs : a.fs = [0]) : takenM a u v = true ↔ ∃ j p n m, Wk a u v n (0, 0) (j, p) ∧ p ∈ a.again ∧ u.length ≤ j ∧ Wk a u v (m + 1) (j, p) (j, p) := by
  have v0 : 0 < v.length := List.length_pos_iff.mpr ok.v0
  have h00 : Vd (u ++ v).length a.st (0, 0) := ⟨by rw [List.length_append]; show 0 < _; omega, ok.fi 0 (by rw [hfs]; simp)⟩
  have hst : ∀ x ∈ a.fs.map fun p => ((0 : Nat), p), Vd (u ++ v).length a.st x := fun x hx => by
    rw [hfs] at hx
    have : x = (0, 0) := by simpa using hx
    rw [this]; exact h00
  unfold takenM
  rw [List.any_eq_true]
  constructor
  · rintro ⟨nd, h1, h2⟩
    simp only [Bool.and_eq_true, decide_eq_true_eq] at h2
    obtain ⟨n, y, hy, hw⟩ := (reach_iff ok hst nd).mp h1
    have hy : y = (0, 0) := by rw [hfs] at hy; simpa using hy
    subst hy
    have vd := wk_vd ok hw h00
    obtain ⟨m, z, hz, hw2⟩ := (reach_iff ok (fun x hx => next_vd ok vd.1 x hx) nd).mp h2.2
    refine ⟨nd.1, nd.2, n, m, hw, h2.1.1, h2.1.2, ?_⟩
    have := (Wk.snoc (.nil nd) hz).trans hw2
    rw [Nat.add_comm] at this
    exact this
  · rintro ⟨j, p, n, m, h1, h2, h3, h4⟩
    refine ⟨(j, p), (reach_iff ok hst _).mpr ⟨n, (0, 0), by rw [hfs]; simp, h1⟩, ?_⟩
    have vd := wk_vd ok h1 h00
    simp only [Bool.and_eq_true, decide_eq_true_eq]
    refine ⟨⟨h2, h3⟩, (reach_iff ok (fun x hx => next_vd ok vd.1 x hx) _).mpr ?_⟩
    -- the first step of the cycle
    have key : ∀ {k : Nat} {x y : Nat × Nat}, Wk a u v k x y → ∀ m, k = m + 1 → ∃ z ∈ nextM a u v x, Wk a u v m z y := by
      intro k x y h
      induction h with
      | nil => exact fun m e => by cases e
      | @snoc n x y z h e ih =>
        intro m em
        have : n = m := by omega
        subst this
        cases n with
        | zero => cases h; exact ⟨z, e, .nil z⟩
        | succ n =>
          obtain ⟨w, hw, h2⟩ := ih n rfl
          exact ⟨w, hw, .snoc h2 e⟩
    obtain ⟨z, hz, h5⟩ := key h4 m rfl
    exact ⟨m, z, hz, h5⟩
end
end KK
/-! M11: words that are read, their values. -/
namespace KK
open PySem PySem.Spec PyProof.Rows L2
/-! ### a word so many times -/
def rp : Nat → List Nat → List Nat
  | 0, _ => []
  | k + 1, w => w ++ rp k w
theorem rp_snoc : ∀ (k : Nat) (w : List Nat), rp (k + 1) w = rp k w ++ w
  | 0, w => by simp [rp]
  | k + 1, w => by
    show w ++ rp (k + 1) w = (w ++ rp k w) ++ w
    rw [rp_snoc k w, List.append_assoc]
theorem rp_add : ∀ (a b : Nat) (w : List Nat), rp (a + b) w = rp a w ++ rp b w
  | 0, b, w => by simp [rp]
  | a + 1, b, w => by
    have : a + 1 + b = (a + b) + 1 := by omega
    rw [this, rp, rp_add a b w, rp, List.append_assoc]
theorem rp_mul : ∀ (a b : Nat) (w : List Nat), rp (a * b) w = rp a (rp b w)
  | 0, b, w => by simp [rp]
  | a + 1, b, w => by rw [Nat.succ_mul, Nat.add_comm, rp_add, rp_mul a b w]; rfl
theorem rp_len : ∀ (k : Nat) (w : List Nat), (rp k w).length = k * w.length
  | 0, w => by simp [rp]
  | k + 1, w => by rw [rp, List.length_append, rp_len k w, Nat.succ_mul]; omega
theorem rp_mem : ∀ {k : Nat} {w : List Nat} {b : Nat}, b ∈ rp k w → b ∈ w
  | 0, _, _, h => by cases h
  | k + 1, w, b, h => by
    rcases List.mem_append.mp h with z | z
    · exact z
    · exact rp_mem z
theorem rp_ne {k : Nat} {w : List Nat} (hk : 0 < k) (hw : w ≠ []) : rp k w ≠ [] := by
  obtain ⟨j, rfl⟩ : ∃ j, k = j + 1 := ⟨k - 1, by omega⟩
  rw [rp]
  intro z
  exact hw (List.append_eq_nil_iff.mp z).1
/-- x (y x)^k = (x y)^k x -/
theorem rp_turn (x y : List Nat) : ∀ k : Nat, x ++ rp k (y ++ x) = rp k (x ++ y) ++ x
  | 0 => by simp [rp]
  | k + 1 => by
    rw [rp, rp]
    have := rp_turn x y k
    calc x ++ (y ++ x ++ rp k (y ++ x)) = (x ++ y) ++ (x ++ rp k (y ++ x)) := by simp
      _ = (x ++ y) ++ (rp k (x ++ y) ++ x) := by rw [this]
      _ = _ := by simp
/-! ### positions, what is read -/
section
variable (u v : List Nat)
def ps (i : Nat) : Nat → Nat
  | 0 => i
  | l + 1 => aftM u v (ps i l)
def rdw (i : Nat) : Nat → List Nat
  | 0 => []
  | l + 1 => rdw i l ++ [(u ++ v).getD (ps u v i l) 0]
variable {u v}
theorem rdw_len (i : Nat) : ∀ l, (rdw u v i l).length = l
  | 0 => rfl
  | l + 1 => by rw [rdw, List.length_append, rdw_len i l]; rfl
theorem take_next {l : List Nat} {d : Nat} (h : d < l.length) : l.take d ++ [l.getD d 0] = l.take (d + 1) := by
  rw [List.getD_eq_getElem?_getD, List.getElem?_eq_getElem h]
  exact (take_snoc (List.getElem?_eq_getElem h)).symm
theorem getD_right {i : Nat} (h : u.length ≤ i) : (u ++ v).getD i 0 = v.getD (i - u.length) 0 := by
  rw [List.getD_eq_getElem?_getD, List.getElem?_append_right h, List.getD_eq_getElem?_getD]
theorem getD_left {i : Nat} (h : i < u.length) : (u ++ v).getD i 0 = u.getD i 0 := by
  rw [List.getD_eq_getElem?_getD, List.getElem?_append_left h, List.getD_eq_getElem?_getD]
theorem turn_step {i m : Nat} (h1 : u.length ≤ i) (h2 : i < (u ++ v).length) : u.length ≤ aftM u v i ∧ aftM u v i < (u ++ v).length ∧ ∃ m', rp m v ++ v.take (i - u.length) ++ [(u ++ v).getD i 0] = rp m' v ++ v.take (aftM u v i - u.length) := by
  rw [getD_right h1]
  rw [List.length_append] at h2
  have hd : i - u.length < v.length := by omega
  unfold aftM
  by_cases e : i + 1 = (u ++ v).length
  · rw [if_pos e]
    rw [List.length_append] at e
    refine ⟨Nat.le_refl _, by rw [List.length_append]; omega, m + 1, ?_⟩
    rw [List.append_assoc, take_next hd, List.take_of_length_le (by omega), rp_snoc]
    simp
  · rw [if_neg e]
    rw [List.length_append] at e ⊢
    refine ⟨by omega, by omega, m, ?_⟩
    rw [List.append_assoc, take_next hd]
    have : i + 1 - u.length = i - u.length + 1 := by omega
    rw [this]
theorem from_j {j : Nat} (h1 : u.length ≤ j) (h2 : j < (u ++ v).length) : ∀ l, u.length ≤ ps u v j l ∧ ps u v j l < (u ++ v).length ∧ ∃ m, v.take (j - u.length) ++ rdw u v j l = rp m v ++ v.take (ps u v j l - u.length)
  | 0 => ⟨h1, h2, 0, by simp [rdw, rp, ps]⟩
  | l + 1 => by
    obtain ⟨g1, g2, m, g3⟩ := from_j h1 h2 l
    obtain ⟨k1, k2, m', k3⟩ := turn_step (m := m) g1 g2
    refine ⟨k1, k2, m', ?_⟩
    rw [rdw, ← List.append_assoc, g3, k3]
    rfl
theorem from_0 (hv : v ≠ []) : ∀ l, (ps u v 0 l < u.length ∧ rdw u v 0 l = u.take (ps u v 0 l)) ∨ (u.length ≤ ps u v 0 l ∧ ps u v 0 l < (u ++ v).length ∧ ∃ m, rdw u v 0 l = u ++ (rp m v ++ v.take (ps u v 0 l - u.length)))
  | 0 => by
    have v0 : 0 < v.length := List.length_pos_iff.mpr hv
    by_cases h : 0 < u.length
    · exact Or.inl ⟨h, by simp [rdw, ps]⟩
    · have : u = [] := List.length_eq_zero_iff.mp (by omega)
      subst this
      exact Or.inr ⟨by simp, by show 0 < _; simpa using v0, 0, by simp [rdw, rp, ps]⟩
  | l + 1 => by
    have v0 : 0 < v.length := List.length_pos_iff.mpr hv
    rcases from_0 hv l with ⟨h1, h2⟩ | ⟨h1, h2, m, h3⟩
    · have e1 : aftM u v (ps u v 0 l) = ps u v 0 l + 1 := by
        unfold aftM
        rw [if_neg (by rw [List.length_append]; omega)]
      have e2 : rdw u v 0 (l + 1) = u.take (ps u v 0 l + 1) := by
        rw [rdw, h2, getD_left h1, take_next h1]
      have e3 : ps u v 0 (l + 1) = ps u v 0 l + 1 := e1
      rw [e3, e2]
      by_cases z : ps u v 0 l + 1 < u.length
      · exact Or.inl ⟨z, rfl⟩
      · refine Or.inr ⟨by omega, by rw [List.length_append]; omega, 0, ?_⟩
        have : ps u v 0 l + 1 = u.length := by omega
        rw [this]
        simp [rp]
    · obtain ⟨k1, k2, m', k3⟩ := turn_step (m := m) h1 h2
      refine Or.inr ⟨k1, k2, m', ?_⟩
      rw [rdw, h3, List.append_assoc, k3]
      rfl
theorem ps_lt (hv : v ≠ []) {i : Nat} (h : i < (u ++ v).length) : ∀ l, ps u v i l < (u ++ v).length
  | 0 => h
  | l + 1 => aft_lt hv (ps_lt hv h l)
theorem rdw_mem (hv : v ≠ []) {i : Nat} (h : i < (u ++ v).length) : ∀ l, ∀ b ∈ rdw u v i l, b ∈ u ++ v
  | 0, b, hb => by cases hb
  | l + 1, b, hb => by
    rcases List.mem_append.mp hb with z | z
    · exact rdw_mem hv h l b z
    · have : b = (u ++ v).getD (ps u v i l) 0 := by simpa using z
      rw [this]
      exact getD_mem (ps_lt hv h l)
/-- at the end of so many turns -/
theorem split_len {m k d : Nat} {n : Nat} (h : m * n + d = k * n) (hd : d < n) : d = 0 ∧ m = k := by
  have h1 : (m * n + d) / n = m := by rw [Nat.mul_comm, Nat.mul_add_div (by omega), Nat.div_eq_of_lt hd]; rfl
  have h2 : k * n / n = k := Nat.mul_div_cancel _ (by omega)
  rw [h, h2] at h1
  subst h1
  exact ⟨by omega, rfl⟩
theorem at_end0 (hv : v ≠ []) (k : Nat) : ps u v 0 (u.length + k * v.length) = u.length ∧ rdw u v 0 (u.length + k * v.length) = u ++ rp k v := by
  have v0 : 0 < v.length := List.length_pos_iff.mpr hv
  have hl := rdw_len (u := u) (v := v) 0 (u.length + k * v.length)
  rcases from_0 (u := u) hv (u.length + k * v.length) with ⟨h1, h2⟩ | ⟨h1, h2, m, h3⟩
  · rw [h2, List.length_take] at hl
    omega
  · rw [List.length_append] at h2
    rw [h3, List.length_append, List.length_append, rp_len, List.length_take] at hl
    obtain ⟨e1, e2⟩ := split_len (m := m) (k := k) (d := ps u v 0 (u.length + k * v.length) - u.length) (n := v.length) (by omega) (by omega)
    refine ⟨by omega, ?_⟩
    rw [h3, e1, e2]
    simp
theorem at_endv (hv : v ≠ []) (k : Nat) : ps u v u.length (k * v.length) = u.length ∧ rdw u v u.length (k * v.length) = rp k v := by
  have v0 : 0 < v.length := List.length_pos_iff.mpr hv
  have hl := rdw_len (u := u) (v := v) u.length (k * v.length)
  obtain ⟨h1, h2, m, h3⟩ := from_j (u := u) (v := v) (j := u.length) (Nat.le_refl _) (by rw [List.length_append]; omega) (k * v.length)
  rw [List.length_append] at h2
  rw [Nat.sub_self, List.take_zero, List.nil_append] at h3
  rw [h3, List.length_append, rp_len, List.length_take] at hl
  obtain ⟨e1, e2⟩ := split_len (m := m) (k := k) (d := ps u v u.length (k * v.length) - u.length) (n := v.length) (by omega) (by omega)
  refine ⟨by omega, ?_⟩
  rw [h3, e1, e2]
  simp
end
/-! ### values -/
def Wl (r : Rd) (w : List Nat) : Prop := ∀ b ∈ w, b < r.L.length
theorem Wl.app {r : Rd} {w x : List Nat} (h : Wl r w) (g : Wl r x) : Wl r (w ++ x) := fun b hb => by
  rcases List.mem_append.mp hb with z | z
  · exact h b z
  · exact g b z
theorem Wl.rp {r : Rd} {w : List Nat} (h : Wl r w) (k : Nat) : Wl r (rp k w) := fun b hb => h b (rp_mem hb)
theorem wor_app {k : Nat} {r : Rd} (g : Good k r) : ∀ (n : Nat) (x w : List Nat), x.length = n → w ≠ [] → x ≠ [] → Wl r w → Wl r x → wor r.L r.M (w ++ x) = mu r.M (wor r.L r.M w) (wor r.L r.M x)
  | 0, x, w, hl, _, hx, _, _ => absurd (List.length_eq_zero_iff.mp hl) hx
  | n + 1, x, w, hl, hw, hx, ww, wx => by
    obtain ⟨y, a, rfl⟩ : ∃ y a, x = y ++ [a] := ⟨x.dropLast, x.getLast hx, (List.dropLast_concat_getLast hx).symm⟩
    have ha : a < r.L.length := wx a (by simp)
    by_cases hy : y = []
    · subst hy
      exact wor_snoc hw a
    · have wy : Wl r y := fun b hb => wx b (List.mem_append_left _ hb)
      rw [← List.append_assoc, wor_snoc (by simp [hw]), wor_snoc hy, wor_app g n y w (by simpa using hl) hw hy ww wy, g.as _ _ _ (wor_lt g.ok hw ww) (wor_lt g.ok hy wy) (g.ok.at ha)]
theorem wor_mul {k : Nat} {r : Rd} (g : Good k r) {w x : List Nat} (hw : w ≠ []) (hx : x ≠ []) (ww : Wl r w) (wx : Wl r x) : wor r.L r.M (w ++ x) = mu r.M (wor r.L r.M w) (wor r.L r.M x) := wor_app g _ x w rfl hw hx ww wx
theorem wor_idem {k : Nat} {r : Rd} (g : Good k r) {w : List Nat} (hw : w ≠ []) (ww : Wl r w) (id : mu r.M (wor r.L r.M w) (wor r.L r.M w) = wor r.L r.M w) : ∀ n, wor r.L r.M (rp (n + 1) w) = wor r.L r.M w
  | 0 => by simp [rp]
  | n + 1 => by
    rw [rp, wor_mul g hw (rp_ne (Nat.succ_pos n) hw) ww (ww.rp _), wor_idem g hw ww id n, id]
theorem wor_in {k : Nat} {r : Rd} (g : Good k r) : ∀ (n : Nat) (w : List Nat), w.length = n → w ≠ [] → Wl r w → wor r.L r.M w ∈ ordV r.L r.M
  | 0, w, hl, hw, _ => absurd (List.length_eq_zero_iff.mp hl) hw
  | n + 1, w, hl, hw, ww => by
    have oo := ord_ok g
    obtain ⟨y, a, rfl⟩ : ∃ y a, w = y ++ [a] := ⟨w.dropLast, w.getLast hw, (List.dropLast_concat_getLast hw).symm⟩
    have ha : a < r.L.length := ww a (by simp)
    have hLa := oo.cl _ (getD_mem (d := 0) ha)
    by_cases hy : y = []
    · subst hy
      exact hLa
    · rw [wor_snoc hy]
      exact oo.cm _ (wor_in g n y (by simpa using hl) hy fun b hb => ww b (List.mem_append_left _ hb)) _ hLa
/-! ### a settled value -/
theorem pigeon {n : Nat} (f : Nat → Nat) (h : ∀ i, f i < n) : ∃ i j, i < j ∧ j ≤ n ∧ f i = f j := by
  by_cases z : ((List.range (n + 1)).map f).Nodup
  · have := nodup_le n _ z fun x hx => by
      obtain ⟨i, _, rfl⟩ := List.mem_map.mp hx
      exact h i
    rw [List.length_map, List.length_range] at this
    omega
  · rw [List.Nodup, List.pairwise_iff_getElem] at z
    by_cases y : ∃ i j, i < j ∧ j ≤ n ∧ f i = f j
    · exact y
    · refine absurd ?_ z
      intro i j hi hj hij e
      simp only [List.getElem_map, List.getElem_range] at e
      rw [List.length_map, List.length_range] at hi hj
      exact y ⟨i, j, hij, by omega, e⟩
theorem setl_ok {k : Nat} {r : Rd} (g : Good k r) {v : List Nat} (hv : v ≠ []) (wv : Wl r v) : ∀ (c i : Nat), (∃ e, i ≤ e ∧ e < i + c ∧ mu r.M (wor r.L r.M (rp (e + 1) v)) (wor r.L r.M (rp (e + 1) v)) = wor r.L r.M (rp (e + 1) v)) →
    ∃ e, setl r.M (wor r.L r.M v) c (wor r.L r.M (rp (i + 1) v)) = wor r.L r.M (rp (e + 1) v) ∧ mu r.M (wor r.L r.M (rp (e + 1) v)) (wor r.L r.M (rp (e + 1) v)) = wor r.L r.M (rp (e + 1) v)
  | 0, i, ⟨e, h1, h2, _⟩ => by omega
  | c + 1, i, ⟨e, h1, h2, h3⟩ => by
    unfold setl
    by_cases z : mu r.M (wor r.L r.M (rp (i + 1) v)) (wor r.L r.M (rp (i + 1) v)) = wor r.L r.M (rp (i + 1) v)
    · rw [if_pos z]
      exact ⟨i, rfl, z⟩
    · rw [if_neg z]
      have e1 : mu r.M (wor r.L r.M (rp (i + 1) v)) (wor r.L r.M v) = wor r.L r.M (rp (i + 1 + 1) v) := by
        rw [rp_snoc (i + 1), wor_mul g (rp_ne (Nat.succ_pos i) hv) hv (wv.rp _) wv]
      rw [e1]
      refine setl_ok g hv wv c (i + 1) ⟨e, ?_, by omega, h3⟩
      by_cases y : i = e
      · subst y
        exact absurd h3 z
      · omega
theorem setv_ok {k : Nat} {r : Rd} (g : Good k r) {v : List Nat} (hv : v ≠ []) (wv : Wl r v) : ∃ e, setv r.M (wor r.L r.M v) = wor r.L r.M (rp (e + 1) v) ∧ mu r.M (wor r.L r.M (rp (e + 1) v)) (wor r.L r.M (rp (e + 1) v)) = wor r.L r.M (rp (e + 1) v) := by
  have hlt : ∀ i, wor r.L r.M (rp (i + 1) v) < r.M.length := fun i => wor_lt g.ok (rp_ne (Nat.succ_pos i) hv) (wv.rp _)
  obtain ⟨i, j, hij, hj, e⟩ := pigeon (n := r.M.length) (fun i => wor r.L r.M (rp (i + 1) v)) hlt
  have e : wor r.L r.M (rp (i + 1) v) = wor r.L r.M (rp (j + 1) v) := e
  -- the values repeat with the period q = j - i from i on
  have per : ∀ m d, wor r.L r.M (rp (i + 1 + d) v) = wor r.L r.M (rp (i + 1 + d + m * (j - i)) v) := by
    intro m
    induction m with
    | zero => intro d; simp
    | succ m ih =>
      intro d
      rw [ih d]
      have one : ∀ c, wor r.L r.M (rp (i + 1 + c) v) = wor r.L r.M (rp (j + 1 + c) v) := fun c => by
        cases c with
        | zero => exact e
        | succ c => rw [rp_add (i + 1), rp_add (j + 1), wor_mul g (rp_ne (Nat.succ_pos i) hv) (rp_ne (Nat.succ_pos c) hv) (wv.rp _) (wv.rp _), wor_mul g (rp_ne (Nat.succ_pos j) hv) (rp_ne (Nat.succ_pos c) hv) (wv.rp _) (wv.rp _), e]
      have h1 := one (d + m * (j - i))
      rw [← Nat.add_assoc] at h1
      rw [h1, Nat.succ_mul]
      congr 2
      omega
  -- a multiple of q from i + 1 to j
  have hq : 0 < j - i := by omega
  obtain ⟨c, hc1, hc2, m, hm⟩ : ∃ c, i + 1 ≤ c ∧ c ≤ j ∧ ∃ m, c = m * (j - i) := by
    refine ⟨(j / (j - i)) * (j - i), ?_, Nat.div_mul_le_self _ _, _, rfl⟩
    have := Nat.div_add_mod j (j - i)
    have h2 := Nat.mod_lt j hq
    rw [Nat.mul_comm] at this
    omega
  have idem : mu r.M (wor r.L r.M (rp c v)) (wor r.L r.M (rp c v)) = wor r.L r.M (rp c v) := by
    rw [← wor_mul g (rp_ne (by omega) hv) (rp_ne (by omega) hv) (wv.rp _) (wv.rp _), ← rp_add]
    have h1 := per m (c - (i + 1))
    have e1 : i + 1 + (c - (i + 1)) = c := by omega
    rw [e1, ← hm] at h1
    exact h1.symm
  have hv0 : wor r.L r.M v = wor r.L r.M (rp (0 + 1) v) := by simp [rp]
  obtain ⟨e2, h1, h2⟩ := setl_ok g hv wv (r.M.length + 1) 0 ⟨c - 1, by omega, by omega, by
    have : c - 1 + 1 = c := by omega
    rw [this]
    exact idem⟩
  refine ⟨e2, ?_, h2⟩
  unfold setv
  rw [← hv0] at h1
  exact h1
end KK
/-! M12: the acceptor takes what the reader accepts. -/
namespace KK
open PySem PySem.Spec PyProof.Rows L2
theorem next_iff (r : Rd) (u v : List Nat) (j p j' q : Nat) : (j', q) ∈ nextM (builtM r) u v (j, p) ↔ j' = aftM u v j ∧ StepB (tidyL r) p ((u ++ v).getD j 0) q := by
  unfold nextM
  rw [List.mem_map]
  constructor
  · rintro ⟨t, ht, e⟩
    obtain ⟨h1, h2⟩ := List.mem_filter.mp ht
    have h1 : t ∈ srt3 (bAll (tidyL r)) := h1
    rw [srt3_mem] at h1
    simp only [Bool.and_eq_true, decide_eq_true_eq] at h2
    have e1 : aftM u v j = j' := congrArg Prod.fst e
    have e2 : t.2.2 = q := congrArg Prod.snd e
    refine ⟨e1.symm, ?_⟩
    have h3 := (step_iff (tidyL r) t.1 t.2.1 t.2.2).mp h1
    rw [h2.1, h2.2, e2] at h3
    exact h3
  · rintro ⟨rfl, h⟩
    refine ⟨(p, (u ++ v).getD j 0, q), List.mem_filter.mpr ⟨?_, by simp⟩, rfl⟩
    show _ ∈ srt3 (bAll (tidyL r))
    rw [srt3_mem]
    exact (step_iff _ _ _ _).mpr h
def enc (r : Rd) (w : List Nat) : Nat := if w = [] then 0 else 1 + num (ordV r.L r.M) (wor r.L r.M w)
section
variable {k : Nat} {r : Rd} (g : Good k r)
include g
theorem wor_in' {w : List Nat} (hw : w ≠ []) (ww : Wl r w) : wor r.L r.M w ∈ ordV r.L r.M := wor_in g _ w rfl hw ww
omit g in
theorem enc_snoc (w : List Nat) (a : Nat) : enc r (w ++ [a]) = 1 + num (ordV r.L r.M) (wor r.L r.M (w ++ [a])) := by
  unfold enc
  rw [if_neg (by simp)]
omit g in
theorem tm_len : (tidyL r).M.length = (ordV r.L r.M).length := tidyO_len _ _
omit g in
theorem tl_len : (tidyL r).L.length = r.L.length := List.length_map _
theorem enc_lt {w : List Nat} (ww : Wl r w) : enc r w < (tidyL r).M.length + 1 := by
  unfold enc
  split
  · omega
  · rename_i h
    have := num_lt (wor_in' g h ww)
    rw [tm_len]
    omega
theorem goal_enc {w : List Nat} {a : Nat} (ww : Wl r w) (ha : a < r.L.length) : goalM (tidyL r) a (enc r w) = num (ordV r.L r.M) (wor r.L r.M (w ++ [a])) := by
  have eL : (tidyL r).L.getD a 0 = num (ordV r.L r.M) (r.L.getD a 0) := by
    show (r.L.map (num (ordV r.L r.M))).getD a 0 = _
    rw [List.getD_eq_getElem?_getD, row_at _ ha]
    rfl
  have oo := ord_ok g
  have hLa := oo.cl _ (getD_mem (d := 0) ha)
  unfold goalM enc
  by_cases h : w = []
  · subst h
    rw [if_pos rfl, if_pos rfl, eL]
    rfl
  · rw [if_neg h, if_neg (by omega), eL]
    have hw := wor_in' g h ww
    have e1 : 1 + num (ordV r.L r.M) (wor r.L r.M w) - 1 = num (ordV r.L r.M) (wor r.L r.M w) := by omega
    rw [e1]
    show mu (tidyO (ordV r.L r.M) r).M _ _ = _
    rw [mu_tidy (num_lt hw) (num_lt hLa), num_at hw, num_at hLa, wor_snoc h]
/-- an accepted pair, by its place in the tidied reader -/
def prP (r : Rd) (i : Nat) : Nat × Nat := ((ordV r.L r.M).getD ((tidyL r).A.getD i (0, 0)).1 0, (ordV r.L r.M).getD ((tidyL r).A.getD i (0, 0)).2 0)
omit g in
theorem tA_mem {p : Nat × Nat} : p ∈ (tidyL r).A ↔ p ∈ (r.A.filter fun p => decide (p.1 ∈ ordV r.L r.M) && decide (p.2 ∈ ordV r.L r.M)).map fun p => (num (ordV r.L r.M) p.1, num (ordV r.L r.M) p.2) :=
  (List.mergeSort_perm _ _).mem_iff
omit g in
theorem prP_ok {i : Nat} (hi : i < (tidyL r).A.length) : prP r i ∈ r.A ∧ (prP r i).1 ∈ ordV r.L r.M ∧ (prP r i).2 ∈ ordV r.L r.M ∧ ((tidyL r).A.getD i (0, 0)).1 = num (ordV r.L r.M) (prP r i).1 ∧ ((tidyL r).A.getD i (0, 0)).2 = num (ordV r.L r.M) (prP r i).2 := by
  have hm : (tidyL r).A.getD i (0, 0) ∈ (tidyL r).A := by
    rw [List.getD_eq_getElem?_getD, List.getElem?_eq_getElem hi]
    exact List.getElem_mem hi
  obtain ⟨p, hp, e⟩ := List.mem_map.mp (tA_mem.mp hm)
  obtain ⟨h1, h2⟩ := List.mem_filter.mp hp
  simp only [Bool.and_eq_true, decide_eq_true_eq] at h2
  have e2 : prP r i = p := by
    unfold prP
    rw [← e]
    show ((ordV r.L r.M).getD (num (ordV r.L r.M) p.1) 0, (ordV r.L r.M).getD (num (ordV r.L r.M) p.2) 0) = p
    rw [num_at h2.1, num_at h2.2]
  rw [e2, ← e]
  exact ⟨h1, h2.1, h2.2, rfl, rfl⟩
omit g in
theorem gate_inj {m i j s s' : Nat} (hs : s < m + 1) (hs' : s' < m + 1) (h : gateM m i + s = gateM m j + s') : i = j ∧ s = s' := by
  unfold gateM at h
  have h2 : i * (m + 1) + s = j * (m + 1) + s' := by omega
  have e1 : (i * (m + 1) + s) / (m + 1) = i := by rw [Nat.mul_comm, Nat.mul_add_div (by omega), Nat.div_eq_of_lt hs]; rfl
  have e2 : (j * (m + 1) + s') / (m + 1) = j := by rw [Nat.mul_comm, Nat.mul_add_div (by omega), Nat.div_eq_of_lt hs']; rfl
  have e3 : i = j := by rw [← e1, h2, e2]
  subst e3
  exact ⟨rfl, by omega⟩
omit g in
theorem gate_ge (m i : Nat) : m + 1 ≤ gateM m i := by unfold gateM; omega
def InvA (r : Rd) (w : List Nat) (p : Nat) : Prop := p = enc r w ∨ ∃ i w1 w2, i < (tidyL r).A.length ∧ w = w1 ++ w2 ∧ w1 ≠ [] ∧ p = gateM (tidyL r).M.length i + enc r w2 ∧ wor r.L r.M w1 = (prP r i).1
def InvB (r : Rd) (i : Nat) (w : List Nat) (p : Nat) : Prop := ∃ w1 w2, w = w1 ++ w2 ∧ p = gateM (tidyL r).M.length i + enc r w2 ∧ (w1 = [] ∨ wor r.L r.M w1 = (prP r i).2)
theorem invA_step {w : List Nat} {p a q : Nat} (ww : Wl r w) (h : InvA r w p) (s : StepB (tidyL r) p a q) : InvA r (w ++ [a]) q := by
  obtain ⟨ha, st, hs, s⟩ := s
  rw [tl_len] at ha
  have wa : Wl r [a] := fun b hb => by
    have : b = a := by simpa using hb
    rw [this]; exact ha
  rcases h with h | ⟨i, w1, w2, hi, rfl, hw1, h, hv⟩
  · have hlt := enc_lt g ww
    rcases s with ⟨e, rfl⟩ | ⟨i', hi', ⟨e1, e2, rfl⟩ | ⟨e, rfl⟩ | ⟨e1, e2, rfl⟩⟩
    · subst e h
      refine Or.inl ?_
      rw [goal_enc g ww ha, enc_snoc]
    · subst e2 h
      obtain ⟨_, o1, _, n1, _⟩ := prP_ok hi'
      refine Or.inr ⟨i', w ++ [a], [], hi', by simp, by simp, by simp [enc], ?_⟩
      rw [goal_enc g ww ha, n1] at e1
      exact (num_inj o1 (wor_in' g (by simp) (ww.app wa)) e1).symm
    · have := gate_ge (tidyL r).M.length i'
      omega
    · have := gate_ge (tidyL r).M.length i'
      omega
  · have ww1 : Wl r w1 := fun b hb => ww b (List.mem_append_left _ hb)
    have ww2 : Wl r w2 := fun b hb => ww b (List.mem_append_right _ hb)
    have hlt := enc_lt g ww2
    have hge := gate_ge (tidyL r).M.length i
    obtain ⟨pA, o1, o2, n1, n2⟩ := prP_ok hi
    rcases s with ⟨e, rfl⟩ | ⟨i', hi', ⟨e1, e2, rfl⟩ | ⟨e, rfl⟩ | ⟨e1, e2, rfl⟩⟩
    · omega
    · omega
    · obtain ⟨rfl, rfl⟩ := gate_inj hlt hs (h.symm.trans e)
      refine Or.inr ⟨i, w1, w2 ++ [a], hi, by simp, hw1, ?_, hv⟩
      rw [goal_enc g ww2 ha, enc_snoc]
      omega
    · obtain ⟨rfl, rfl⟩ := gate_inj hlt hs (h.symm.trans e2)
      rw [goal_enc g ww2 ha, n2] at e1
      have e3 := num_inj o2 (wor_in' g (by simp) (ww2.app wa)) e1
      refine Or.inr ⟨i, w1 ++ (w2 ++ [a]), [], hi, by simp, by simp, by simp [enc], ?_⟩
      rw [wor_mul g hw1 (by simp) ww1 (ww2.app wa), ← e3, hv]
      exact (g.lk _ pA).2.2.1
theorem invB_step {i : Nat} (hi : i < (tidyL r).A.length) {w : List Nat} {p a q : Nat} (ww : Wl r w) (h : InvB r i w p) (s : StepB (tidyL r) p a q) : InvB r i (w ++ [a]) q := by
  obtain ⟨ha, st, hs, s⟩ := s
  rw [tl_len] at ha
  have wa : Wl r [a] := fun b hb => by
    have : b = a := by simpa using hb
    rw [this]; exact ha
  obtain ⟨w1, w2, rfl, h, hv⟩ := h
  have ww1 : Wl r w1 := fun b hb => ww b (List.mem_append_left _ hb)
  have ww2 : Wl r w2 := fun b hb => ww b (List.mem_append_right _ hb)
  have hlt := enc_lt g ww2
  have hge := gate_ge (tidyL r).M.length i
  obtain ⟨pA, o1, o2, n1, n2⟩ := prP_ok hi
  rcases s with ⟨e, rfl⟩ | ⟨i', hi', ⟨e1, e2, rfl⟩ | ⟨e, rfl⟩ | ⟨e1, e2, rfl⟩⟩
  · omega
  · omega
  · obtain ⟨rfl, rfl⟩ := gate_inj hlt hs (h.symm.trans e)
    refine ⟨w1, w2 ++ [a], by simp, ?_, hv⟩
    rw [goal_enc g ww2 ha, enc_snoc]
    omega
  · obtain ⟨rfl, rfl⟩ := gate_inj hlt hs (h.symm.trans e2)
    rw [goal_enc g ww2 ha, n2] at e1
    have e3 := num_inj o2 (wor_in' g (by simp) (ww2.app wa)) e1
    refine ⟨w1 ++ (w2 ++ [a]), [], by simp, by simp [enc], Or.inr ?_⟩
    rcases hv with hv | hv
    · subst hv
      exact e3.symm
    · by_cases z : w1 = []
      · subst z
        exact e3.symm
      · rw [wor_mul g z (by simp) ww1 (ww2.app wa), ← e3, hv]
        exact (g.lk _ pA).2.2.2
theorem rdw_wl {u v : List Nat} (hv : v ≠ []) (wu : Wl r u) (wv : Wl r v) {i : Nat} (hi : i < (u ++ v).length) (l : Nat) : Wl r (rdw u v i l) := fun b hb => (wu.app wv) b (rdw_mem hv hi l b hb)
theorem wk_A {u v : List Nat} (hv : v ≠ []) (wu : Wl r u) (wv : Wl r v) {n : Nat} {x y : Nat × Nat} (h : Wk (builtM r) u v n x y) (hx : x = (0, 0)) : y.1 = ps u v 0 n ∧ InvA r (rdw u v 0 n) y.2 := by
  have h0 : 0 < (u ++ v).length := by
    rw [List.length_append]
    have := List.length_pos_iff.mpr hv
    omega
  induction h with
  | nil => subst hx; exact ⟨rfl, Or.inl rfl⟩
  | @snoc n x y z h e ih =>
    obtain ⟨h1, h2⟩ := ih hx
    obtain ⟨e1, e2⟩ := (next_iff r u v y.1 y.2 z.1 z.2).mp e
    refine ⟨by rw [e1, h1]; rfl, ?_⟩
    rw [h1] at e2
    exact invA_step g (rdw_wl g hv wu wv h0 n) h2 e2
theorem wk_B {u v : List Nat} (hv : v ≠ []) (wu : Wl r u) (wv : Wl r v) {i j : Nat} (hi : i < (tidyL r).A.length) (hj : j < (u ++ v).length) {n : Nat} {x y : Nat × Nat} (h : Wk (builtM r) u v n x y) (hx : x = (j, gateM (tidyL r).M.length i)) : y.1 = ps u v j n ∧ InvB r i (rdw u v j n) y.2 := by
  induction h with
  | nil => subst hx; exact ⟨rfl, [], [], rfl, by simp [enc], Or.inl rfl⟩
  | @snoc n x y z h e ih =>
    obtain ⟨h1, h2⟩ := ih hx
    obtain ⟨e1, e2⟩ := (next_iff r u v y.1 y.2 z.1 z.2).mp e
    refine ⟨by rw [e1, h1]; rfl, ?_⟩
    rw [h1] at e2
    exact invB_step g hi (rdw_wl g hv wu wv hj n) h2 e2
/-! ### paths there are -/
theorem go_A {u v : List Nat} (hv : v ≠ []) (wu : Wl r u) (wv : Wl r v) : ∀ n, Wk (builtM r) u v n (0, 0) (ps u v 0 n, enc r (rdw u v 0 n))
  | 0 => .nil _
  | n + 1 => by
    have h0 : 0 < (u ++ v).length := by
      rw [List.length_append]
      have := List.length_pos_iff.mpr hv
      omega
    have ww := rdw_wl g hv wu wv h0 n
    have ha : (u ++ v).getD (ps u v 0 n) 0 < r.L.length := (wu.app wv) _ (getD_mem (ps_lt hv h0 n))
    refine .snoc (go_A hv wu wv n) ((next_iff _ _ _ _ _ _ _).mpr ⟨rfl, by rw [tl_len]; exact ha, _, enc_lt g ww, Or.inl ⟨rfl, ?_⟩⟩)
    rw [goal_enc g ww ha, rdw, enc_snoc]
theorem go_B {u v : List Nat} (hv : v ≠ []) (wu : Wl r u) (wv : Wl r v) {i j : Nat} (hi : i < (tidyL r).A.length) (hj : j < (u ++ v).length) : ∀ n, Wk (builtM r) u v n (j, gateM (tidyL r).M.length i) (ps u v j n, gateM (tidyL r).M.length i + enc r (rdw u v j n))
  | 0 => by
    have e : gateM (tidyL r).M.length i + enc r (rdw u v j 0) = gateM (tidyL r).M.length i := by simp [rdw, enc]
    rw [e]
    exact .nil _
  | n + 1 => by
    have ww := rdw_wl g hv wu wv hj n
    have ha : (u ++ v).getD (ps u v j n) 0 < r.L.length := (wu.app wv) _ (getD_mem (ps_lt hv hj n))
    refine .snoc (go_B hv wu wv hi hj n) ((next_iff _ _ _ _ _ _ _).mpr ⟨rfl, by rw [tl_len]; exact ha, _, enc_lt g ww, Or.inr ⟨i, hi, Or.inr (Or.inl ⟨rfl, ?_⟩)⟩⟩)
    rw [goal_enc g ww ha, rdw, enc_snoc]
    omega
/-! ### the pair of a word -/
theorem pair_ok {u v : List Nat} (hv : v ≠ []) (wu : Wl r u) (wv : Wl r v) : ∃ e, pairM r.L r.M u v = (wor r.L r.M (u ++ rp (e + 1) v), wor r.L r.M (rp (e + 1) v)) ∧ mu r.M (wor r.L r.M (rp (e + 1) v)) (wor r.L r.M (rp (e + 1) v)) = wor r.L r.M (rp (e + 1) v) := by
  obtain ⟨e, h1, h2⟩ := setv_ok g hv wv
  refine ⟨e, ?_, h2⟩
  unfold pairM
  rw [h1]
  by_cases z : u.length = 0
  · rw [if_pos z]
    have : u = [] := List.length_eq_zero_iff.mp z
    subst this
    rfl
  · rw [if_neg z, wor_mul g (fun y => z (by rw [y]; rfl)) (rp_ne (Nat.succ_pos e) hv) wu (wv.rp _)]
theorem taken_of {u v : List Nat} (hv : v ≠ []) (wu : Wl r u) (wv : Wl r v) (h : pairM r.L r.M u v ∈ r.A) : ∃ j p n m, Wk (builtM r) u v n (0, 0) (j, p) ∧ p ∈ (builtM r).again ∧ u.length ≤ j ∧ Wk (builtM r) u v (m + 1) (j, p) (j, p) := by
  obtain ⟨e, hp, id⟩ := pair_ok g hv wu wv
  rw [hp] at h
  have v0 : 0 < v.length := List.length_pos_iff.mpr hv
  have h0 : 0 < (u ++ v).length := by rw [List.length_append]; omega
  have hu : u.length < (u ++ v).length := by rw [List.length_append]; omega
  have hr := rp_ne (k := e + 1) (Nat.succ_pos e) hv
  have o1 := wor_in' g (w := u ++ rp (e + 1) v) (fun z => hr (List.append_eq_nil_iff.mp z).2) (wu.app (wv.rp _))
  have o2 := wor_in' g (w := rp (e + 1) v) hr (wv.rp _)
  have hA : (num (ordV r.L r.M) (wor r.L r.M (u ++ rp (e + 1) v)), num (ordV r.L r.M) (wor r.L r.M (rp (e + 1) v))) ∈ (tidyL r).A := tA_mem.mpr (List.mem_map.mpr ⟨_, List.mem_filter.mpr ⟨h, by simp [o1, o2]⟩, rfl⟩)
  obtain ⟨i, hi, ei⟩ := List.getElem_of_mem hA
  have ei2 : (tidyL r).A.getD i (0, 0) = (num (ordV r.L r.M) (wor r.L r.M (u ++ rp (e + 1) v)), num (ordV r.L r.M) (wor r.L r.M (rp (e + 1) v))) := by
    rw [List.getD_eq_getElem?_getD, List.getElem?_eq_getElem hi, ei]
    rfl
  have len1 : 0 < (e + 1) * v.length := Nat.mul_pos (Nat.succ_pos e) v0
  refine ⟨u.length, gateM (tidyL r).M.length i, u.length + (e + 1) * v.length, (e + 1) * v.length - 1, ?_, List.mem_map.mpr ⟨i, by simpa using hi, rfl⟩, Nat.le_refl _, ?_⟩
  · obtain ⟨l, hl⟩ : ∃ l, u.length + (e + 1) * v.length = l + 1 := ⟨u.length + (e + 1) * v.length - 1, by omega⟩
    obtain ⟨q1, q2⟩ := at_end0 (u := u) hv (e + 1)
    rw [hl] at q1 q2 ⊢
    have ww := rdw_wl g hv wu wv h0 l
    have ha : (u ++ v).getD (ps u v 0 l) 0 < r.L.length := (wu.app wv) _ (getD_mem (ps_lt hv h0 l))
    refine .snoc (go_A g hv wu wv l) ((next_iff _ _ _ _ _ _ _).mpr ⟨q1.symm, by rw [tl_len]; exact ha, _, enc_lt g ww, Or.inr ⟨i, hi, Or.inl ⟨?_, rfl, rfl⟩⟩⟩)
    rw [goal_enc g ww ha, ei2]
    have q2 : rdw u v 0 l ++ [(u ++ v).getD (ps u v 0 l) 0] = u ++ rp (e + 1) v := q2
    rw [q2]
  · obtain ⟨l, hl⟩ : ∃ l, (e + 1) * v.length = l + 1 := ⟨(e + 1) * v.length - 1, by omega⟩
    obtain ⟨q1, q2⟩ := at_endv (u := u) hv (e + 1)
    have hl2 : (e + 1) * v.length - 1 + 1 = l + 1 := by omega
    rw [hl2]
    rw [hl] at q1 q2
    have ww := rdw_wl g hv wu wv hu l
    have ha : (u ++ v).getD (ps u v u.length l) 0 < r.L.length := (wu.app wv) _ (getD_mem (ps_lt hv hu l))
    refine .snoc (go_B g hv wu wv hi hu l) ((next_iff _ _ _ _ _ _ _).mpr ⟨q1.symm, by rw [tl_len]; exact ha, _, enc_lt g ww, Or.inr ⟨i, hi, Or.inr (Or.inr ⟨?_, rfl, rfl⟩)⟩⟩)
    rw [goal_enc g ww ha, ei2]
    have q2 : rdw u v u.length l ++ [(u ++ v).getD (ps u v u.length l) 0] = rp (e + 1) v := q2
    rw [q2]
theorem of_taken {u v : List Nat} (hv : v ≠ []) (wu : Wl r u) (wv : Wl r v) {j p n m : Nat} (h1 : Wk (builtM r) u v n (0, 0) (j, p)) (h2 : p ∈ (builtM r).again) (h3 : u.length ≤ j) (h4 : Wk (builtM r) u v (m + 1) (j, p) (j, p)) : pairM r.L r.M u v ∈ r.A := by
  obtain ⟨i, hi, rfl⟩ := List.mem_map.mp h2
  have hi : i < (tidyL r).A.length := by simpa using hi
  have v0 : 0 < v.length := List.length_pos_iff.mpr hv
  have h0 : 0 < (u ++ v).length := by rw [List.length_append]; omega
  obtain ⟨e1, ia⟩ := wk_A g hv wu wv h1 rfl
  have e1 : j = ps u v 0 n := e1
  have hj : j < (u ++ v).length := by rw [e1]; exact ps_lt hv h0 n
  obtain ⟨e2, ib⟩ := wk_B g hv wu wv hi hj h4 rfl
  have e2 : j = ps u v j (m + 1) := e2
  have enc0 : ∀ {w : List Nat}, enc r w = 0 → w = [] := fun {w} h => by
    unfold enc at h
    split at h
    · assumption
    · omega
  obtain ⟨pA, o1, o2, n1, n2⟩ := prP_ok hi
  have ww := rdw_wl g hv wu wv h0 n
  -- what was read up to the gate
  have wA : rdw u v 0 n ≠ [] ∧ wor r.L r.M (rdw u v 0 n) = (prP r i).1 := by
    rcases ia with ia | ⟨i', w1, w2, hi', ew, hw1, ep, hv1⟩
    · have ia : gateM (tidyL r).M.length i = enc r (rdw u v 0 n) := ia
      have := enc_lt g ww
      have := gate_ge (tidyL r).M.length i
      omega
    · have ep : gateM (tidyL r).M.length i = gateM (tidyL r).M.length i' + enc r w2 := ep
      have hlt := enc_lt g (w := w2) fun b hb => ww b (by rw [ew]; exact List.mem_append_right _ hb)
      obtain ⟨e3, e4⟩ := gate_inj (m := (tidyL r).M.length) (i := i) (j := i') (s := 0) (s' := enc r w2) (by omega) hlt (by omega)
      have := enc0 e4.symm
      subst this e3
      rw [List.append_nil] at ew
      rw [ew]
      exact ⟨hw1, hv1⟩
  have ww2 := rdw_wl g hv wu wv hj (m + 1)
  have neR : rdw u v j (m + 1) ≠ [] := fun z => by
    have := rdw_len (u := u) (v := v) j (m + 1)
    rw [z] at this
    cases this
  have wB : wor r.L r.M (rdw u v j (m + 1)) = (prP r i).2 := by
    obtain ⟨w1, w2, ew, ep, hv1⟩ := ib
    have ep : gateM (tidyL r).M.length i = gateM (tidyL r).M.length i + enc r w2 := ep
    have := enc0 (w := w2) (by omega)
    subst this
    rw [List.append_nil] at ew
    rw [ew] at neR ⊢
    rcases hv1 with z | z
    · exact absurd z neR
    · exact z
  -- what the words are
  obtain ⟨mm, ew⟩ : ∃ mm, rdw u v 0 n = u ++ (rp mm v ++ v.take (j - u.length)) := by
    rcases from_0 (u := u) hv n with ⟨q, _⟩ | ⟨_, _, mm, q⟩
    · omega
    · exact ⟨mm, by rw [e1]; exact q⟩
  obtain ⟨_, _, c', er⟩ := from_j h3 hj (m + 1)
  rw [← e2] at er
  rw [List.length_append] at hj
  have hd : j - u.length < v.length := by omega
  have ev : v.take (j - u.length) ++ v.drop (j - u.length) = v := List.take_append_drop _ _
  have ne2 : v.drop (j - u.length) ≠ [] := fun z => by
    have := congrArg List.length z
    rw [List.length_drop] at this
    simp at this
    omega
  have wv1 : Wl r (v.take (j - u.length)) := fun b hb => wv b (List.mem_of_mem_take hb)
  have wv2 : Wl r (v.drop (j - u.length)) := fun b hb => wv b (List.mem_of_mem_drop hb)
  generalize v.take (j - u.length) = v1 at ew er ev wv1
  generalize v.drop (j - u.length) = v2 at ev ne2 wv2
  have er2 : rdw u v j (m + 1) = rp c' (v2 ++ v1) := by
    have h := rp_turn v1 v2 c'
    rw [ev, ← er] at h
    exact (List.append_cancel_left h).symm
  have hc' : 0 < c' := by
    rcases Nat.eq_zero_or_pos c' with z | z
    · rw [er2, z] at neR
      exact absurd rfl neR
    · exact z
  obtain ⟨e, hp, id⟩ := pair_ok g hv wu wv
  rw [hp]
  -- the turn
  obtain ⟨a, ha⟩ : ∃ a, a = e * (mm + 1) := ⟨_, rfl⟩
  have hbig : a + 2 ≤ c' * (e + 1) * (a + 2) := Nat.le_mul_of_pos_left _ (Nat.mul_pos hc' (Nat.succ_pos e))
  obtain ⟨b, hb⟩ : ∃ b, a + b + 1 = c' * (e + 1) * (a + 2) ∧ 0 < b := ⟨c' * (e + 1) * (a + 2) - a - 1, by omega, by omega⟩
  obtain ⟨hb, hb0⟩ := hb
  have neX : v2 ++ rp a v ≠ [] := fun z => ne2 (List.append_eq_nil_iff.mp z).1
  have neY : rp b v ++ v1 ≠ [] := fun z => rp_ne hb0 hv (List.append_eq_nil_iff.mp z).1
  have wX : Wl r (v2 ++ rp a v) := wv2.app (wv.rp _)
  have wY : Wl r (rp b v ++ v1) := (wv.rp _).app wv1
  have neE := rp_ne (k := e + 1) (Nat.succ_pos e) hv
  have eXY : (v2 ++ rp a v) ++ (rp b v ++ v1) = rp ((e + 1) * (a + 2)) (rdw u v j (m + 1)) := by
    rw [er2, ← rp_mul]
    have e5 : (e + 1) * (a + 2) * c' = (a + b) + 1 := by rw [hb, Nat.mul_comm, Nat.mul_assoc]
    rw [e5, rp_snoc]
    have h := rp_turn v2 v1 (a + b)
    rw [ev] at h
    calc (v2 ++ rp a v) ++ (rp b v ++ v1) = (v2 ++ (rp a v ++ rp b v)) ++ v1 := by simp
      _ = (v2 ++ rp (a + b) v) ++ v1 := by rw [rp_add]
      _ = _ := by rw [h]; simp
  have eYX : (rp b v ++ v1) ++ (v2 ++ rp a v) = rp (c' * (a + 2)) (rp (e + 1) v) := by
    rw [← rp_mul]
    have e5 : c' * (a + 2) * (e + 1) = b + (1 + a) := by rw [Nat.mul_assoc, Nat.mul_comm (a + 2), ← Nat.mul_assoc, ← hb]; omega
    rw [e5, rp_add, rp_add]
    calc (rp b v ++ v1) ++ (v2 ++ rp a v) = rp b v ++ ((v1 ++ v2) ++ rp a v) := by simp
      _ = _ := by rw [ev]; simp [rp]
  have eWX : rdw u v 0 n ++ (v2 ++ rp a v) = u ++ rp (mm + 1) (rp (e + 1) v) := by
    rw [← rp_mul, ew]
    have e5 : (mm + 1) * (e + 1) = mm + (1 + a) := by rw [ha, Nat.mul_add, Nat.mul_one, Nat.mul_comm (mm + 1) e]; omega
    rw [e5, rp_add, rp_add]
    calc u ++ (rp mm v ++ v1) ++ (v2 ++ rp a v) = u ++ (rp mm v ++ ((v1 ++ v2) ++ rp a v)) := by simp
      _ = _ := by rw [ev]; simp [rp]
  have lkP := g.lk _ pA
  have vXY : mu r.M (wor r.L r.M (v2 ++ rp a v)) (wor r.L r.M (rp b v ++ v1)) = (prP r i).2 := by
    rw [← wor_mul g neX neY wX wY, eXY]
    obtain ⟨z, hz⟩ : ∃ z, (e + 1) * (a + 2) = z + 1 := ⟨(e + 1) * (a + 2) - 1, by have : 0 < (e + 1) * (a + 2) := Nat.mul_pos (Nat.succ_pos e) (by omega); omega⟩
    rw [hz, wor_idem g neR ww2 (by rw [wB]; exact lkP.2.2.2) z, wB]
  have vYX : mu r.M (wor r.L r.M (rp b v ++ v1)) (wor r.L r.M (v2 ++ rp a v)) = wor r.L r.M (rp (e + 1) v) := by
    rw [← wor_mul g neY neX wY wX, eYX]
    obtain ⟨z, hz⟩ : ∃ z, c' * (a + 2) = z + 1 := ⟨c' * (a + 2) - 1, by have : 0 < c' * (a + 2) := Nat.mul_pos hc' (by omega); omega⟩
    rw [hz, wor_idem g neE (wv.rp _) id z]
  have vWX : mu r.M (prP r i).1 (wor r.L r.M (v2 ++ rp a v)) = wor r.L r.M (u ++ rp (e + 1) v) := by
    rw [← wA.2, ← wor_mul g wA.1 neX ww wX, eWX]
    have h6 := wor_idem g neE (wv.rp _) id mm
    by_cases z : u = []
    · subst z
      exact h6
    · rw [wor_mul g z (rp_ne (Nat.succ_pos mm) neE) wu ((wv.rp _).rp _), h6, ← wor_mul g z neE wu (wv.rp _)]
  have ltE : wor r.L r.M (rp (e + 1) v) < r.M.length := wor_lt g.ok neE (wv.rp _)
  have neU : u ++ rp (e + 1) v ≠ [] := fun z => neE (List.append_eq_nil_iff.mp z).2
  refine g.tu _ pA _ ⟨lkP, ⟨wor_lt g.ok neU (wu.app (wv.rp _)), ltE, ?_, id⟩, _, _, wor_lt g.ok neX wX, wor_lt g.ok neY wY, vXY, ?_⟩
  · show mu r.M (wor r.L r.M (u ++ rp (e + 1) v)) (wor r.L r.M (rp (e + 1) v)) = wor r.L r.M (u ++ rp (e + 1) v)
    by_cases z : u = []
    · subst z
      exact id
    · have ltU : wor r.L r.M u < r.M.length := wor_lt g.ok z wu
      rw [wor_mul g z neE wu (wv.rp _), g.as _ _ _ ltU ltE ltE, id]
  · unfold oth
    rw [vWX, vYX]
end
theorem tk_ok {k : Nat} {r : Rd} {u v : List Nat} (g : Good k r) (hk : k ≤ 3) (hst : (acM r).st ≤ 25) (hw : WordOk k 4 (u, v)) : takenM (acM r) u v = decide (pairM r.L r.M u v ∈ r.A) := by
  have ac := ac_ok g hk hst hw
  have wu : Wl r u := fun b hb => by rw [g.n]; exact hw.1.2.2 b hb
  have wv : Wl r v := fun b hb => by rw [g.n]; exact hw.2.2.2 b hb
  rw [ac_eq g] at ac ⊢
  have key : takenM (builtM r) u v = true ↔ pairM r.L r.M u v ∈ r.A := by
    rw [taken_iff ac rfl]
    exact ⟨fun ⟨j, p, n, m, h1, h2, h3, h4⟩ => of_taken g ac.v0 wu wv h1 h2 h3 h4, fun h => taken_of g ac.v0 wu wv h⟩
  by_cases h : pairM r.L r.M u v ∈ r.A
  · rw [decide_eq_true h]
    exact key.mpr h
  · rw [decide_eq_false h]
    cases q : takenM (builtM r) u v with
    | false => rfl
    | true => exact absurd (key.mp q) h
end KK
namespace KK
theorem plainLaw : PlainLaw := ⟨fun _ _ g => ord_ok g, fun _ _ g => bt_ok g, fun _ _ g => ac_eq g, fun _ _ _ _ g hk hst hw => ac_ok g hk hst hw, fun _ _ _ _ g hk hst hw => tk_ok g hk hst hw⟩
end KK
set_option Elab.async false
set_option linter.all false
set_option maxRecDepth 100000
set_option maxHeartbeats 0
namespace KK
open PySem PySem.Spec PyProof.Rows L2
def hd_draw : He.FnD := ⟨("_law_draw", none), "_law_draw", "_law_draw", defArgs sL_draw, defBody sL_draw, defScope sL_draw⟩
def hd_functions : He.FnD := ⟨("_law_functions", none), "_law_functions", "_law_functions", defArgs sL_functions, defBody sL_functions, defScope sL_functions⟩
def hd_product : He.FnD := ⟨("_law_product", none), "_law_product", "_law_product", defArgs sL_product, defBody sL_product, defScope sL_product⟩
def hd_table : He.FnD := ⟨("_law_table", none), "_law_table", "_law_table", defArgs sL_table, defBody sL_table, defScope sL_table⟩
def hd_mixed : He.FnD := ⟨("_law_mixed", none), "_law_mixed", "_law_mixed", defArgs sL_mixed, defBody sL_mixed, defScope sL_mixed⟩
def hd_linked : He.FnD := ⟨("_law_linked", none), "_law_linked", "_law_linked", defArgs sL_linked, defBody sL_linked, defScope sL_linked⟩
def hd_turns : He.FnD := ⟨("_law_turns", none), "_law_turns", "_law_turns", defArgs sL_turns, defBody sL_turns, defScope sL_turns⟩
def hd_reader : He.FnD := ⟨("_law_reader", none), "_law_reader", "_law_reader", defArgs sL_reader, defBody sL_reader, defScope sL_reader⟩
def hd_init : He.FnD := ⟨("Table", some "__init__"), "__init__", "Table.__init__", defArgs sT_init, defBody sT_init, defScope sT_init⟩
def hd_letter : He.FnD := ⟨("Table", some "letter"), "letter", "Table.letter", defArgs sT_letter, defBody sT_letter, defScope sT_letter⟩
def hd_join : He.FnD := ⟨("Table", some "join"), "join", "Table.join", defArgs sT_join, defBody sT_join, defScope sT_join⟩
def hd_takes : He.FnD := ⟨("Table", some "takes"), "takes", "Table.takes", defArgs sT_takes, defBody sT_takes, defScope sT_takes⟩
def hd_listed : He.FnD := ⟨("listed", none), "listed", "listed", defArgs slisted, defBody slisted, defScope slisted⟩
def hd_is_linked : He.FnD := ⟨("is_linked", none), "is_linked", "is_linked", defArgs sis_linked, defBody sis_linked, defScope sis_linked⟩
def hd_product_row : He.FnD := ⟨("product_row", none), "product_row", "product_row", defArgs sproduct_row, defBody sproduct_row, defScope sproduct_row⟩
def hd_made_reader : He.FnD := ⟨("made_reader", none), "made_reader", "made_reader", defArgs smade_reader, defBody smade_reader, defScope smade_reader⟩
def hd_tidy : He.FnD := ⟨("tidy", none), "tidy", "tidy", defArgs stidy, defBody stidy, defScope stidy⟩
def hd_beginning_steps : He.FnD := ⟨("beginning_steps", none), "beginning_steps", "beginning_steps", defArgs sbeginning_steps, defBody sbeginning_steps, defScope sbeginning_steps⟩
def hd_round_steps : He.FnD := ⟨("round_steps", none), "round_steps", "round_steps", defArgs sround_steps, defBody sround_steps, defScope sround_steps⟩
def hd_acceptor_of : He.FnD := ⟨("acceptor_of", none), "acceptor_of", "acceptor_of", defArgs sacceptor_of, defBody sacceptor_of, defScope sacceptor_of⟩
def hd_worth : He.FnD := ⟨("_law_worth", none), "_law_worth", "_law_worth", defArgs sL_worth, defBody sL_worth, defScope sL_worth⟩
def hd_found : He.FnD := ⟨("_law_found", none), "_law_found", "_law_found", defArgs sL_found, defBody sL_found, defScope sL_found⟩
def hd_tidied : He.FnD := ⟨("_law_tidied", none), "_law_tidied", "_law_tidied", defArgs sL_tidied, defBody sL_tidied, defScope sL_tidied⟩
def hd_gate : He.FnD := ⟨("_law_gate", none), "_law_gate", "_law_gate", defArgs sL_gate, defBody sL_gate, defScope sL_gate⟩
def hd_built : He.FnD := ⟨("_law_built", none), "_law_built", "_law_built", defArgs sL_built, defBody sL_built, defScope sL_built⟩
def hd_row : He.FnD := ⟨("_law_row", none), "_law_row", "_law_row", defArgs sL_row, defBody sL_row, defScope sL_row⟩
def hd_word : He.FnD := ⟨("_law_word", none), "_law_word", "_law_word", defArgs sL_word, defBody sL_word, defScope sL_word⟩
def hd_next : He.FnD := ⟨("_law_next", none), "_law_next", "_law_next", defArgs sL_next, defBody sL_next, defScope sL_next⟩
def hd_reach : He.FnD := ⟨("_law_reach", none), "_law_reach", "_law_reach", defArgs sL_reach, defBody sL_reach, defScope sL_reach⟩
def hd_taken : He.FnD := ⟨("_law_taken", none), "_law_taken", "_law_taken", defArgs sL_taken, defBody sL_taken, defScope sL_taken⟩
def hd_settled : He.FnD := ⟨("_law_settled", none), "_law_settled", "_law_settled", defArgs sL_settled, defBody sL_settled, defScope sL_settled⟩
def hd_pair : He.FnD := ⟨("_law_pair", none), "_law_pair", "_law_pair", defArgs sL_pair, defBody sL_pair, defScope sL_pair⟩
def hd_accepts : He.FnD := ⟨("_law_accepts", none), "_law_accepts", "_law_accepts", defArgs sL_accepts, defBody sL_accepts, defScope sL_accepts⟩
def hd_law : He.FnD := ⟨("law", none), "law", "law", defArgs slaw, defBody slaw, defScope slaw⟩
def hfn : List He.FnD := [hd_draw, hd_functions, hd_product, hd_table, hd_mixed, hd_linked, hd_turns, hd_reader, hd_init, hd_letter, hd_join, hd_takes, hd_listed, hd_is_linked, hd_product_row, hd_made_reader, hd_tidy, hd_beginning_steps, hd_round_steps, hd_acceptor_of, hd_worth, hd_found, hd_tidied, hd_gate, hd_built, hd_row, hd_word, hd_next, hd_reach, hd_taken, hd_settled, hd_pair, hd_accepts, hd_law]
def hfa0 : List He.Fa := [.glo "_law_draw", .keep "_law_draw", .glo "_law_functions", .keep "_law_functions", .glo "_law_product", .keep "_law_product", .glo "_law_table", .keep "_law_table", .glo "_law_mixed", .keep "_law_mixed", .glo "_law_linked", .keep "_law_linked", .glo "_law_turns", .keep "_law_turns", .glo "_law_reader", .keep "_law_reader", .glo "listed", .keep "listed", .glo "is_linked", .keep "is_linked", .glo "product_row", .keep "product_row", .glo "made_reader", .keep "made_reader", .glo "tidy", .keep "tidy", .glo "beginning_steps", .keep "beginning_steps", .glo "round_steps", .keep "round_steps"]
def hfa1 : List He.Fa := [.glo "acceptor_of", .keep "acceptor_of", .glo "_law_worth", .keep "_law_worth", .glo "_law_found", .keep "_law_found", .glo "_law_tidied", .keep "_law_tidied", .glo "_law_gate", .keep "_law_gate", .glo "_law_built", .keep "_law_built", .glo "_law_row", .keep "_law_row", .glo "_law_word", .keep "_law_word", .glo "_law_next", .keep "_law_next", .glo "_law_reach", .keep "_law_reach", .glo "_law_taken", .keep "_law_taken", .glo "_law_settled", .keep "_law_settled", .glo "_law_pair", .keep "_law_pair", .glo "_law_accepts", .keep "_law_accepts", .glo "law", .keep "law"]
def hfa2 : List He.Fa := [.free "len", .free "range", .free "tuple", .free "list", .free "int", .free "max", .free "min", .free "enumerate", .free "zip", .free "sorted", .int "MOST_VALUES" 300, .glo "Table", .cls "Table", .noat "Table" "reader", .noat "Table" "known", .mkr "Table", .meth "Table" "__init__", .meth "Table" "letter", .meth "Table" "join", .meth "Table" "takes"]
def hfa : List He.Fa := hfa0 ++ hfa1 ++ hfa2
abbrev hR : PySem.W.OpenRow := PySem.W.OpenLaw.row PySem.Challenge.rw_unendtold_k12_whole_acceptors_of_readers
abbrev hhk : PySem.W.Hook := He.hookE 6 hfa hfn
def hob (s : PySem.W.SharedT) : He.Al := He.obsG 6 hfa hfn (HandSHeadRun.getT s)
theorem hob_eq (s : PySem.W.SharedT) : hob s = hhk.obs s.abs := He.obsG_eq (HandSHeadRun.getT_eq s)
def hloose0 : List Str := ["MOST_VALUES", "is_linked", "UnendtoldError", "TooManyValues", "Table", "listed", "product_row", "made_reader", "tidy", "acceptor_of", "beginning_steps", "round_steps", "_law_draw", "_law_functions", "_law_product"]
def hloose1 : List Str := ["_law_table", "_law_mixed", "_law_linked", "_law_turns", "_law_reader", "_law_row", "_law_word", "_law_worth", "_law_settled", "_law_pair", "_law_accepts", "_law_found", "_law_tidied", "_law_next", "_law_reach"]
def hloose2 : List Str := ["_law_taken", "_law_gate", "_law_built"]
def hloose : List Str := hloose0 ++ hloose1 ++ hloose2
theorem hrun (w : World) : HandSHeadRun.RunEq hR (PySem.W.view hR.prog [38]) hhk hob 6000 hloose w := by
  intro os
  kernel_rfl
section
variable {P : Program} {w : World} {K : PySem.W.Frag} {mg : Str → Option Value} {base : Heap}
theorem fun_of {x qual : Str} {st : Stmt} {f : Addr} (l : ∃ oc od osl kV doc pm an cdv ct, K.lookup f = some ⟨oc, od, .func (PySem.W.fnOf x qual (defArgs st) (defBody st) (defScope st) .none kV doc pm an cdv ct), osl⟩ ∧ PySem.W.codeIn K cdv qual = true) (kp : PySem.W.keepIn K (.ref f) = true) : ∃ fd, Fun K x qual st f fd := by
  obtain ⟨oc, od, osl, kV, doc, pm, an, cdv, ct, l, c⟩ := l
  exact ⟨_, fun_mk l c kp⟩
theorem cl_of {x : Str} {st : Stmt} {ps : List Str} {k : Nat} {sp : Sp} {f : Addr} (l : ∃ fd, Fun K x x st f fd) (g : mg x = some (.ref f)) (kp : PySem.W.keepIn K (.ref f) = true)
    (hb : ∀ (kV doc pm : Value) (an : Option Addr) (cdv ct : Value) (us : List Value), us.length = ps.length → bindArgs (PySem.W.fnOf x x (defArgs st) (defBody st) (defScope st) .none kV doc pm an cdv ct) ⟨us, []⟩ = pure (ps.zip us))
    (ok : ∀ fd, Fun K x x st f fd → FnOk P w K mg base CX0 k f fd ps sp) : Cl P w K mg base k x ps sp := by
  obtain ⟨fd, F⟩ := l
  exact ⟨f, fd, ok fd F, g, kp, F.binds hb⟩
theorem cm_of {C : Addr} {m qual : Str} {st : Stmt} {ps : List Str} {k : Nat} {sp : Sp} {f : Addr} (cl : Cls K C) (l : ∃ fd, Fun K m qual st f fd) (me : Meth K C m f)
    (hb : ∀ (kV doc pm : Value) (an : Option Addr) (cdv ct : Value) (us : List Value), us.length = ps.length → bindArgs (PySem.W.fnOf m qual (defArgs st) (defBody st) (defScope st) .none kV doc pm an cdv ct) ⟨us, []⟩ = pure (ps.zip us))
    (ok : ∀ fd, Fun K m qual st f fd → FnOk P w K mg base CX0 k f fd ps sp) : Cm P w K mg base k C m ps sp := by
  obtain ⟨fd, F⟩ := l
  exact ⟨cl, f, fd, ok fd F, me, F.binds hb⟩
theorem ck_of {C : Addr} {x qual : Str} {st : Stmt} {ps : List Str} {k : Nat} {sp : Sp} {f : Addr} (l : ∃ fd, Fun K "__init__" qual st f fd) (mk : Mk K C f) (g : mg x = some (.ref C))
    (hb : ∀ (kV doc pm : Value) (an : Option Addr) (cdv ct : Value) (us : List Value), us.length = ps.length → bindArgs (PySem.W.fnOf "__init__" qual (defArgs st) (defBody st) (defScope st) .none kV doc pm an cdv ct) ⟨us, []⟩ = pure (ps.zip us))
    (ok : ∀ fd, Fun K "__init__" qual st f fd → FnOk P w K mg base CX0 k f fd ps sp) : Ck P w K mg base k C x ps sp := by
  obtain ⟨fd, F⟩ := l
  exact ⟨f, fd, ok fd F, mk, g, F.binds hb⟩
end
theorem hfacts {P : Program} {w : World} {K : PySem.W.Frag} {h : Heap} {mg : Str → Option Value} {f : Addr} (X : K.In h) (G : h.Ns mainGlobals mg) (hfm : mg ("law" : Str) = some (.ref f)) (c : He.SaysE hfa hfn K) :
    ∃ fd : FuncData, (∀ (s : Shared) (v : Value), BindsTo s fd ⟨[v], []⟩ [("_law_script", v)]) ∧ ∀ base : Heap, K.In base → base.Ns mainGlobals mg → FnOk P w K mg base CX0 6 f fd ["_law_script"] (spLaw K) := by
  have e := hfm.symm.trans (He.glo_ok X G (c.fact 58 (f := He.Fa.glo "law") rfl))
  cases e
  have T : Bt mg := ⟨He.free_ok X G (c.fact 60 (f := He.Fa.free "len") rfl), He.free_ok X G (c.fact 61 (f := He.Fa.free "range") rfl), He.free_ok X G (c.fact 62 (f := He.Fa.free "tuple") rfl), He.free_ok X G (c.fact 63 (f := He.Fa.free "list") rfl), He.free_ok X G (c.fact 64 (f := He.Fa.free "int") rfl), He.free_ok X G (c.fact 65 (f := He.Fa.free "max") rfl), He.free_ok X G (c.fact 66 (f := He.Fa.free "min") rfl), He.free_ok X G (c.fact 67 (f := He.Fa.free "enumerate") rfl), He.free_ok X G (c.fact 68 (f := He.Fa.free "zip") rfl), He.free_ok X G (c.fact 69 (f := He.Fa.free "sorted") rfl)⟩
  obtain ⟨tk, hmost⟩ := He.int_ok X G (c.fact 70 (f := He.Fa.int "MOST_VALUES" 300) rfl)
  have Tc : Tt K (He.ga K "Table") := ⟨He.cls_ok (c.fact 72 (f := He.Fa.cls "Table") rfl), He.noat_ok (c.fact 73 (f := He.Fa.noat "Table" "reader") rfl), He.noat_ok (c.fact 74 (f := He.Fa.noat "Table" "known") rfl)⟩
  have F_draw := fun_of (st := sL_draw) (c.def_ 0 (d := hd_draw) rfl) (He.keep_ok (c.fact 1 (f := He.Fa.keep "_law_draw") rfl))
  have F_functions := fun_of (st := sL_functions) (c.def_ 1 (d := hd_functions) rfl) (He.keep_ok (c.fact 3 (f := He.Fa.keep "_law_functions") rfl))
  have F_product := fun_of (st := sL_product) (c.def_ 2 (d := hd_product) rfl) (He.keep_ok (c.fact 5 (f := He.Fa.keep "_law_product") rfl))
  have F_table := fun_of (st := sL_table) (c.def_ 3 (d := hd_table) rfl) (He.keep_ok (c.fact 7 (f := He.Fa.keep "_law_table") rfl))
  have F_mixed := fun_of (st := sL_mixed) (c.def_ 4 (d := hd_mixed) rfl) (He.keep_ok (c.fact 9 (f := He.Fa.keep "_law_mixed") rfl))
  have F_linked := fun_of (st := sL_linked) (c.def_ 5 (d := hd_linked) rfl) (He.keep_ok (c.fact 11 (f := He.Fa.keep "_law_linked") rfl))
  have F_turns := fun_of (st := sL_turns) (c.def_ 6 (d := hd_turns) rfl) (He.keep_ok (c.fact 13 (f := He.Fa.keep "_law_turns") rfl))
  have F_reader := fun_of (st := sL_reader) (c.def_ 7 (d := hd_reader) rfl) (He.keep_ok (c.fact 15 (f := He.Fa.keep "_law_reader") rfl))
  have F_init := fun_of (st := sT_init) (c.def_ 8 (d := hd_init) rfl) (He.meth_ok (c.fact 76 (f := He.Fa.meth "Table" "__init__") rfl)).kp
  have F_letter := fun_of (st := sT_letter) (c.def_ 9 (d := hd_letter) rfl) (He.meth_ok (c.fact 77 (f := He.Fa.meth "Table" "letter") rfl)).kp
  have F_join := fun_of (st := sT_join) (c.def_ 10 (d := hd_join) rfl) (He.meth_ok (c.fact 78 (f := He.Fa.meth "Table" "join") rfl)).kp
  have F_takes := fun_of (st := sT_takes) (c.def_ 11 (d := hd_takes) rfl) (He.meth_ok (c.fact 79 (f := He.Fa.meth "Table" "takes") rfl)).kp
  have F_listed := fun_of (st := slisted) (c.def_ 12 (d := hd_listed) rfl) (He.keep_ok (c.fact 17 (f := He.Fa.keep "listed") rfl))
  have F_is_linked := fun_of (st := sis_linked) (c.def_ 13 (d := hd_is_linked) rfl) (He.keep_ok (c.fact 19 (f := He.Fa.keep "is_linked") rfl))
  have F_product_row := fun_of (st := sproduct_row) (c.def_ 14 (d := hd_product_row) rfl) (He.keep_ok (c.fact 21 (f := He.Fa.keep "product_row") rfl))
  have F_made_reader := fun_of (st := smade_reader) (c.def_ 15 (d := hd_made_reader) rfl) (He.keep_ok (c.fact 23 (f := He.Fa.keep "made_reader") rfl))
  have F_tidy := fun_of (st := stidy) (c.def_ 16 (d := hd_tidy) rfl) (He.keep_ok (c.fact 25 (f := He.Fa.keep "tidy") rfl))
  have F_beginning_steps := fun_of (st := sbeginning_steps) (c.def_ 17 (d := hd_beginning_steps) rfl) (He.keep_ok (c.fact 27 (f := He.Fa.keep "beginning_steps") rfl))
  have F_round_steps := fun_of (st := sround_steps) (c.def_ 18 (d := hd_round_steps) rfl) (He.keep_ok (c.fact 29 (f := He.Fa.keep "round_steps") rfl))
  have F_acceptor_of := fun_of (st := sacceptor_of) (c.def_ 19 (d := hd_acceptor_of) rfl) (He.keep_ok (c.fact 31 (f := He.Fa.keep "acceptor_of") rfl))
  have F_worth := fun_of (st := sL_worth) (c.def_ 20 (d := hd_worth) rfl) (He.keep_ok (c.fact 33 (f := He.Fa.keep "_law_worth") rfl))
  have F_found := fun_of (st := sL_found) (c.def_ 21 (d := hd_found) rfl) (He.keep_ok (c.fact 35 (f := He.Fa.keep "_law_found") rfl))
  have F_tidied := fun_of (st := sL_tidied) (c.def_ 22 (d := hd_tidied) rfl) (He.keep_ok (c.fact 37 (f := He.Fa.keep "_law_tidied") rfl))
  have F_gate := fun_of (st := sL_gate) (c.def_ 23 (d := hd_gate) rfl) (He.keep_ok (c.fact 39 (f := He.Fa.keep "_law_gate") rfl))
  have F_built := fun_of (st := sL_built) (c.def_ 24 (d := hd_built) rfl) (He.keep_ok (c.fact 41 (f := He.Fa.keep "_law_built") rfl))
  have F_row := fun_of (st := sL_row) (c.def_ 25 (d := hd_row) rfl) (He.keep_ok (c.fact 43 (f := He.Fa.keep "_law_row") rfl))
  have F_word := fun_of (st := sL_word) (c.def_ 26 (d := hd_word) rfl) (He.keep_ok (c.fact 45 (f := He.Fa.keep "_law_word") rfl))
  have F_next := fun_of (st := sL_next) (c.def_ 27 (d := hd_next) rfl) (He.keep_ok (c.fact 47 (f := He.Fa.keep "_law_next") rfl))
  have F_reach := fun_of (st := sL_reach) (c.def_ 28 (d := hd_reach) rfl) (He.keep_ok (c.fact 49 (f := He.Fa.keep "_law_reach") rfl))
  have F_taken := fun_of (st := sL_taken) (c.def_ 29 (d := hd_taken) rfl) (He.keep_ok (c.fact 51 (f := He.Fa.keep "_law_taken") rfl))
  have F_settled := fun_of (st := sL_settled) (c.def_ 30 (d := hd_settled) rfl) (He.keep_ok (c.fact 53 (f := He.Fa.keep "_law_settled") rfl))
  have F_pair := fun_of (st := sL_pair) (c.def_ 31 (d := hd_pair) rfl) (He.keep_ok (c.fact 55 (f := He.Fa.keep "_law_pair") rfl))
  have F_accepts := fun_of (st := sL_accepts) (c.def_ 32 (d := hd_accepts) rfl) (He.keep_ok (c.fact 57 (f := He.Fa.keep "_law_accepts") rfl))
  have F_law := fun_of (st := slaw) (c.def_ 33 (d := hd_law) rfl) (He.keep_ok (c.fact 59 (f := He.Fa.keep "law") rfl))
  obtain ⟨fd, Fl⟩ := F_law
  have bl := Fl.binds (ps := ["_law_script"]) fun _ _ _ _ _ _ us hl => match us, hl with | [_], _ => rfl
  have key : ∀ base : Heap, FnOk P w K mg base CX0 6 _ fd ["_law_script"] (spLaw K) := fun base => by
    have CL_draw : Cl P w K mg base 1 "_law_draw" ["_law_state", "_law_limit"] (spS (RlD fs_draw)) := cl_of F_draw (He.glo_ok X G (c.fact 0 (f := He.Fa.glo "_law_draw") rfl)) (He.keep_ok (c.fact 1 (f := He.Fa.keep "_law_draw") rfl)) (fun _ _ _ _ _ _ us hl => match us, hl with | [_, _], _ => rfl) (fun fd F => ok_draw F T)
    have CL_functions : Cl P w K mg base 2 "_law_functions" ["_law_state"] (spS (RlD fs_fun)) := cl_of F_functions (He.glo_ok X G (c.fact 2 (f := He.Fa.glo "_law_functions") rfl)) (He.keep_ok (c.fact 3 (f := He.Fa.keep "_law_functions") rfl)) (fun _ _ _ _ _ _ us hl => match us, hl with | [_], _ => rfl) (fun fd F => ok_functions F T CL_draw)
    have CL_product : Cl P w K mg base 1 "_law_product" ["_law_kind", "_law_count", "_law_x", "_law_y"] (spD fs_prod) := cl_of F_product (He.glo_ok X G (c.fact 4 (f := He.Fa.glo "_law_product") rfl)) (He.keep_ok (c.fact 5 (f := He.Fa.keep "_law_product") rfl)) (fun _ _ _ _ _ _ us hl => match us, hl with | [_, _, _, _], _ => rfl) (fun fd F => ok_product F T)
    have CL_table : Cl P w K mg base 3 "_law_table" ["_law_state"] (spS (RlD fs_table)) := cl_of F_table (He.glo_ok X G (c.fact 6 (f := He.Fa.glo "_law_table") rfl)) (He.keep_ok (c.fact 7 (f := He.Fa.keep "_law_table") rfl)) (fun _ _ _ _ _ _ us hl => match us, hl with | [_], _ => rfl) (fun fd F => ok_table F T CL_draw CL_functions CL_product)
    have CL_mixed : Cl P w K mg base 2 "_law_mixed" ["_law_state", "_law_count"] (spS (RlD fs_mixed)) := cl_of F_mixed (He.glo_ok X G (c.fact 8 (f := He.Fa.glo "_law_mixed") rfl)) (He.keep_ok (c.fact 9 (f := He.Fa.keep "_law_mixed") rfl)) (fun _ _ _ _ _ _ us hl => match us, hl with | [_, _], _ => rfl) (fun fd F => ok_mixed F T CL_draw)
    have CL_linked : Cl P w K mg base 1 "_law_linked" ["_law_mul"] (spD fs_linked) := cl_of F_linked (He.glo_ok X G (c.fact 10 (f := He.Fa.glo "_law_linked") rfl)) (He.keep_ok (c.fact 11 (f := He.Fa.keep "_law_linked") rfl)) (fun _ _ _ _ _ _ us hl => match us, hl with | [_], _ => rfl) (fun fd F => ok_linked F T)
    have CL_turns : Cl P w K mg base 1 "_law_turns" ["_law_mul", "_law_pairs"] (spD fs_turns) := cl_of F_turns (He.glo_ok X G (c.fact 12 (f := He.Fa.glo "_law_turns") rfl)) (He.keep_ok (c.fact 13 (f := He.Fa.keep "_law_turns") rfl)) (fun _ _ _ _ _ _ us hl => match us, hl with | [_, _], _ => rfl) (fun fd F => ok_turns F T)
    have CL_reader : Cl P w K mg base 4 "_law_reader" ["_law_state", "_law_count"] (spS (RlD fs_reader)) := cl_of F_reader (He.glo_ok X G (c.fact 14 (f := He.Fa.glo "_law_reader") rfl)) (He.keep_ok (c.fact 15 (f := He.Fa.keep "_law_reader") rfl)) (fun _ _ _ _ _ _ us hl => match us, hl with | [_, _], _ => rfl) (fun fd F => ok_reader F T CL_draw CL_table CL_mixed CL_linked CL_turns)
    have C_Table : Ck P w K mg base 1 (He.ga K "Table") "Table" ["self", "reader"] (spI (He.ga K "Table")) := ck_of F_init (He.mkr_ok (c.fact 75 (f := He.Fa.mkr "Table") rfl)) (He.glo_ok X G (c.fact 71 (f := He.Fa.glo "Table") rfl)) (fun _ _ _ _ _ _ us hl => match us, hl with | [_, _], _ => rfl) (fun fd F => ok_init F Tc)
    have C_letter : Cm P w K mg base 1 (He.ga K "Table") "letter" ["self", "a"] (spG (rl_letter (He.ga K "Table"))) := cm_of Tc.cl F_letter (He.meth_ok (c.fact 77 (f := He.Fa.meth "Table" "letter") rfl)) (fun _ _ _ _ _ _ us hl => match us, hl with | [_, _], _ => rfl) (fun fd F => ok_letter F Tc)
    have C_join : Cm P w K mg base 1 (He.ga K "Table") "join" ["self", "x", "y"] (spG (rl_join (He.ga K "Table"))) := cm_of Tc.cl F_join (He.meth_ok (c.fact 78 (f := He.Fa.meth "Table" "join") rfl)) (fun _ _ _ _ _ _ us hl => match us, hl with | [_, _, _], _ => rfl) (fun fd F => ok_join F Tc)
    have C_takes : Cm P w K mg base 1 (He.ga K "Table") "takes" ["self", "s", "f"] (spG (rl_takes (He.ga K "Table"))) := cm_of Tc.cl F_takes (He.meth_ok (c.fact 79 (f := He.Fa.meth "Table" "takes") rfl)) (fun _ _ _ _ _ _ us hl => match us, hl with | [_, _, _], _ => rfl) (fun fd F => ok_takes F Tc)
    have Clisted : Cl P w K mg base 2 "listed" ["table", "count"] (spG (rl_listed (He.ga K "Table"))) := cl_of F_listed (He.glo_ok X G (c.fact 16 (f := He.Fa.glo "listed") rfl)) (He.keep_ok (c.fact 17 (f := He.Fa.keep "listed") rfl)) (fun _ _ _ _ _ _ us hl => match us, hl with | [_, _], _ => rfl) (fun fd F => ok_listed F T hmost C_letter C_join)
    have Cis_linked : Cl P w K mg base 1 "is_linked" ["reader", "first", "second"] (spD fs_is_linked) := cl_of F_is_linked (He.glo_ok X G (c.fact 18 (f := He.Fa.glo "is_linked") rfl)) (He.keep_ok (c.fact 19 (f := He.Fa.keep "is_linked") rfl)) (fun _ _ _ _ _ _ us hl => match us, hl with | [_, _, _], _ => rfl) (fun fd F => ok_is_linked F T)
    have Cproduct_row : Cl P w K mg base 1 "product_row" ["number", "right", "words"] (spD fs_prow) := cl_of F_product_row (He.glo_ok X G (c.fact 20 (f := He.Fa.glo "product_row") rfl)) (He.keep_ok (c.fact 21 (f := He.Fa.keep "product_row") rfl)) (fun _ _ _ _ _ _ us hl => match us, hl with | [_, _, _], _ => rfl) (fun fd F => ok_product_row F T)
    have Cmade_reader : Cl P w K mg base 3 "made_reader" ["table", "count"] (spG (rl_made (He.ga K "Table"))) := cl_of F_made_reader (He.glo_ok X G (c.fact 22 (f := He.Fa.glo "made_reader") rfl)) (He.keep_ok (c.fact 23 (f := He.Fa.keep "made_reader") rfl)) (fun _ _ _ _ _ _ us hl => match us, hl with | [_, _], _ => rfl) (fun fd F => ok_made_reader F T C_letter C_join C_takes Clisted Cis_linked Cproduct_row)
    have Ctidy : Cl P w K mg base 4 "tidy" ["reader"] (spD fs_tidy) := cl_of F_tidy (He.glo_ok X G (c.fact 24 (f := He.Fa.glo "tidy") rfl)) (He.keep_ok (c.fact 25 (f := He.Fa.keep "tidy") rfl)) (fun _ _ _ _ _ _ us hl => match us, hl with | [_], _ => rfl) (fun fd F => ok_tidy F T C_Table Cmade_reader)
    have Cbeginning_steps : Cl P w K mg base 1 "beginning_steps" ["a", "x", "mul", "accepted", "gates"] (spD fs_beg) := cl_of F_beginning_steps (He.glo_ok X G (c.fact 26 (f := He.Fa.glo "beginning_steps") rfl)) (He.keep_ok (c.fact 27 (f := He.Fa.keep "beginning_steps") rfl)) (fun _ _ _ _ _ _ us hl => match us, hl with | [_, _, _, _, _], _ => rfl) (fun fd F => ok_beginning_steps F T)
    have Cround_steps : Cl P w K mg base 1 "round_steps" ["a", "x", "mul", "f", "gate"] (spD fs_rnd) := cl_of F_round_steps (He.glo_ok X G (c.fact 28 (f := He.Fa.glo "round_steps") rfl)) (He.keep_ok (c.fact 29 (f := He.Fa.keep "round_steps") rfl)) (fun _ _ _ _ _ _ us hl => match us, hl with | [_, _, _, _, _], _ => rfl) (fun fd F => ok_round_steps F T)
    have Cacceptor_of : Cl P w K mg base 5 "acceptor_of" ["reader"] (spD fs_acc) := cl_of F_acceptor_of (He.glo_ok X G (c.fact 30 (f := He.Fa.glo "acceptor_of") rfl)) (He.keep_ok (c.fact 31 (f := He.Fa.keep "acceptor_of") rfl)) (fun _ _ _ _ _ _ us hl => match us, hl with | [_], _ => rfl) (fun fd F => ok_acceptor_of F T Ctidy Cbeginning_steps Cround_steps)
    have CL_worth : Cl P w K mg base 1 "_law_worth" ["_law_reader_here", "_law_row_here"] (spD fs_worth) := cl_of F_worth (He.glo_ok X G (c.fact 32 (f := He.Fa.glo "_law_worth") rfl)) (He.keep_ok (c.fact 33 (f := He.Fa.keep "_law_worth") rfl)) (fun _ _ _ _ _ _ us hl => match us, hl with | [_, _], _ => rfl) (fun fd F => ok_worth F T)
    have CL_found : Cl P w K mg base 2 "_law_found" ["_law_reader_here"] (spD fs_found) := cl_of F_found (He.glo_ok X G (c.fact 34 (f := He.Fa.glo "_law_found") rfl)) (He.keep_ok (c.fact 35 (f := He.Fa.keep "_law_found") rfl)) (fun _ _ _ _ _ _ us hl => match us, hl with | [_], _ => rfl) (fun fd F => ok_found F T CL_worth)
    have CL_tidied : Cl P w K mg base 3 "_law_tidied" ["_law_reader_here"] (spD fs_tidied) := cl_of F_tidied (He.glo_ok X G (c.fact 36 (f := He.Fa.glo "_law_tidied") rfl)) (He.keep_ok (c.fact 37 (f := He.Fa.keep "_law_tidied") rfl)) (fun _ _ _ _ _ _ us hl => match us, hl with | [_], _ => rfl) (fun fd F => ok_tidied F T CL_found)
    have CL_gate : Cl P w K mg base 1 "_law_gate" ["_law_size", "_law_i"] (spD fs_gate) := cl_of F_gate (He.glo_ok X G (c.fact 38 (f := He.Fa.glo "_law_gate") rfl)) (He.keep_ok (c.fact 39 (f := He.Fa.keep "_law_gate") rfl)) (fun _ _ _ _ _ _ us hl => match us, hl with | [_, _], _ => rfl) (fun fd F => ok_gate F T)
    have CL_built : Cl P w K mg base 4 "_law_built" ["_law_reader_here"] (spD fs_built) := cl_of F_built (He.glo_ok X G (c.fact 40 (f := He.Fa.glo "_law_built") rfl)) (He.keep_ok (c.fact 41 (f := He.Fa.keep "_law_built") rfl)) (fun _ _ _ _ _ _ us hl => match us, hl with | [_], _ => rfl) (fun fd F => ok_built F T CL_tidied CL_gate)
    have CL_row : Cl P w K mg base 2 "_law_row" ["_law_state", "_law_count", "_law_low", "_law_most"] (spS (RlD fs_row)) := cl_of F_row (He.glo_ok X G (c.fact 42 (f := He.Fa.glo "_law_row") rfl)) (He.keep_ok (c.fact 43 (f := He.Fa.keep "_law_row") rfl)) (fun _ _ _ _ _ _ us hl => match us, hl with | [_, _, _, _], _ => rfl) (fun fd F => ok_row F T CL_draw)
    have CL_word : Cl P w K mg base 3 "_law_word" ["_law_state", "_law_count", "_law_most"] (spS (RlD fs_word)) := cl_of F_word (He.glo_ok X G (c.fact 44 (f := He.Fa.glo "_law_word") rfl)) (He.keep_ok (c.fact 45 (f := He.Fa.keep "_law_word") rfl)) (fun _ _ _ _ _ _ us hl => match us, hl with | [_, _, _], _ => rfl) (fun fd F => ok_word F T CL_row)
    have CL_next : Cl P w K mg base 1 "_law_next" ["_law_acceptor", "_law_word_here", "_law_node"] (spD fs_next) := cl_of F_next (He.glo_ok X G (c.fact 46 (f := He.Fa.glo "_law_next") rfl)) (He.keep_ok (c.fact 47 (f := He.Fa.keep "_law_next") rfl)) (fun _ _ _ _ _ _ us hl => match us, hl with | [_, _, _], _ => rfl) (fun fd F => ok_next F T)
    have CL_reach : Cl P w K mg base 2 "_law_reach" ["_law_acceptor", "_law_word_here", "_law_nodes"] (spD fs_reach) := cl_of F_reach (He.glo_ok X G (c.fact 48 (f := He.Fa.glo "_law_reach") rfl)) (He.keep_ok (c.fact 49 (f := He.Fa.keep "_law_reach") rfl)) (fun _ _ _ _ _ _ us hl => match us, hl with | [_, _, _], _ => rfl) (fun fd F => ok_reach F T CL_next)
    have CL_taken : Cl P w K mg base 3 "_law_taken" ["_law_acceptor", "_law_word_here"] (spD fs_taken) := cl_of F_taken (He.glo_ok X G (c.fact 50 (f := He.Fa.glo "_law_taken") rfl)) (He.keep_ok (c.fact 51 (f := He.Fa.keep "_law_taken") rfl)) (fun _ _ _ _ _ _ us hl => match us, hl with | [_, _], _ => rfl) (fun fd F => ok_taken F T CL_next CL_reach)
    have CL_settled : Cl P w K mg base 1 "_law_settled" ["_law_mul", "_law_v"] (spD fs_settled) := cl_of F_settled (He.glo_ok X G (c.fact 52 (f := He.Fa.glo "_law_settled") rfl)) (He.keep_ok (c.fact 53 (f := He.Fa.keep "_law_settled") rfl)) (fun _ _ _ _ _ _ us hl => match us, hl with | [_, _], _ => rfl) (fun fd F => ok_settled F T)
    have CL_pair : Cl P w K mg base 2 "_law_pair" ["_law_reader_here", "_law_word_here"] (spD fs_pair) := cl_of F_pair (He.glo_ok X G (c.fact 54 (f := He.Fa.glo "_law_pair") rfl)) (He.keep_ok (c.fact 55 (f := He.Fa.keep "_law_pair") rfl)) (fun _ _ _ _ _ _ us hl => match us, hl with | [_, _], _ => rfl) (fun fd F => ok_pair F T CL_worth CL_settled)
    have CL_accepts : Cl P w K mg base 3 "_law_accepts" ["_law_reader_here", "_law_word_here"] (spD fs_accepts) := cl_of F_accepts (He.glo_ok X G (c.fact 56 (f := He.Fa.glo "_law_accepts") rfl)) (He.keep_ok (c.fact 57 (f := He.Fa.keep "_law_accepts") rfl)) (fun _ _ _ _ _ _ us hl => match us, hl with | [_, _], _ => rfl) (fun fd F => ok_accepts F T CL_pair)
    exact ok_law plainLaw Fl T CL_draw CL_reader Cacceptor_of CL_built CL_word CL_taken CL_accepts
  refine ⟨fd, fun s v => ?_, fun base _ _ => key base⟩
  obtain ⟨oc, od, kV, doc, pm, an, cdv, ct, osl, rfl, lk, hcd⟩ := Fl.ex
  exact .of_eq rfl
end KK
open PySem PySem.W PySem.Calls PyProof.Rows
theorem PySem.Challenge.cw_unendtold_k12_whole_acceptors_of_readers_holds : PySem.Challenge.rw_unendtold_k12_whole_acceptors_of_readers.Holds := by
  w_on; o_law
  refine HandSHeadRun.head_any (r := OpenLaw.row PySem.Challenge.rw_unendtold_k12_whole_acceptors_of_readers) (q := view (OpenLaw.row PySem.Challenge.rw_unendtold_k12_whole_acceptors_of_readers).prog [38]) (H := KK.hhk) (ob := KK.hob) (M := 6000) (loose := KK.hloose) (d := HandSHeadRun.topDef (OpenLaw.row PySem.Challenge.rw_unendtold_k12_whole_acceptors_of_readers).prog 38) (kwd := []) KK.hob_eq
    (by kernel_rfl) (fun s => by kernel_rfl) KK.hrun (by kernel_rfl) (by kernel_rfl) (by kernel_rfl) (by rfl) (by first | assumption | decide +kernel) (by decide +kernel) ⟨rfl, rfl, rfl, rfl, rfl, by decide +kernel⟩ ?hw ?hc
  case hw => w_witness2
  case hc =>
    refine L2.walk_ofE (l := PySem.Challenge.rw_unendtold_k12_whole_acceptors_of_readers) (n := 63) (k := 6) (x := "_law_script") (CX := L2.CX0) rfl (by decide) (by kernel_rfl) ⟨rfl, by decide, by decide⟩ ?F (fun _ _ _ _ z => z)
    intro w mg fa h Y G hmg0
    obtain ⟨K, KX, c⟩ := Y
    have hmg : mg ("law" : PySem.Str) = some (.ref fa) := by
      have e : (HandSHeadRun.topDef (OpenLaw.row PySem.Challenge.rw_unendtold_k12_whole_acceptors_of_readers).prog 38).name = ("law" : PySem.Str) := by kernel_rfl
      rw [← e]
      exact hmg0
    obtain ⟨fd, hb, hF⟩ := KK.hfacts (P := (PySem.Challenge.rw_unendtold_k12_whole_acceptors_of_readers).prog) (w := w) KX G hmg c
    exact ⟨K, fd, KK.spLaw K, KX, hb, fun H a ns hl _ hS => ⟨a, ns, rfl, hl, hS, fun _ => rfl⟩, hF⟩
