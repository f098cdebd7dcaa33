/- The law FnExactAreEntries, plainly. -/
import Derived.Test.YtaaldnaefdodkaaGreatDoorWalkFnExactAreEntries
import Derived.Test.YtaaldnaefdodkaaGreatDoorPAx9
import Derived.Test.YtaaldnaefdodkaaGreatDoorPAx5
import Derived.Test.YtaaldnaefdodkaaGreatDoorPAx8
import Derived.Test.YtaaldnaefdodkaaGreatDoorPAx7
import Derived.Test.YtaaldnaefdodkaaGreatDoorQSigns
namespace Go.Proofs.YtaaldnaefdodkaaGreatDoor.PA
open Go.RowKit Go.Proofs.YtaaldnaefdodkaaGreatDoorW.PrintWords Go.Proofs.YtaaldnaefdodkaaGreatDoorW.PrintLast Go.Proofs.YtaaldnaefdodkaaGreatDoorW.PrintMore
set_option linter.unusedVariables false
set_option linter.unusedSimpArgs false
/-- A valid entry. -/
def enV (x : S71) : Bool := glOK x.f0 && (sgOK (x.f1.f0.f0.f0) (x.f1.f0.f0.f1) (x.f1.f0.f0.f2) (x.f1.f0.f0.f3) (x.f1.f0.f0.f4) (x.f1.f0.f0.f5) (x.f1.f0.f1.f0) (x.f1.f0.f1.f1) (x.f1.f0.f2.f0) (x.f1.f0.f2.f1) (x.f1.f0.f2.f2) (x.f1.f0.f3.f0) (x.f1.f0.f3.f1) (x.f1.f1) (x.f1.f2.f0.f0) (x.f1.f2.f0.f1) (x.f1.f2.f0.f2) (x.f1.f2.f0.f3) (x.f1.f2.f0.f4) (x.f1.f2.f0.f5) (x.f1.f2.f1.f0) (x.f1.f2.f1.f1) (x.f1.f2.f2.f0) (x.f1.f2.f2.f1) (x.f1.f2.f2.f2) (x.f1.f2.f3.f0) (x.f1.f2.f3.f1) && (decide (0 ≤ x.f2 ∧ x.f2 ≤ 5) && decide (0 ≤ x.f3 ∧ x.f3 ≤ 99999)))
theorem spec_one_ev (x : S71) (h : SzE x) : Ev (fun k => spec_enOne.f k (x.f0) (x.f1.f0.f0.f0) (x.f1.f0.f0.f1) (x.f1.f0.f0.f2) (x.f1.f0.f0.f3) (x.f1.f0.f0.f4) (x.f1.f0.f0.f5) (x.f1.f0.f1.f0) (x.f1.f0.f1.f1) (x.f1.f0.f2.f0) (x.f1.f0.f2.f1) (x.f1.f0.f2.f2) (x.f1.f0.f3.f0) (x.f1.f0.f3.f1) (x.f1.f1) (x.f1.f2.f0.f0) (x.f1.f2.f0.f1) (x.f1.f2.f0.f2) (x.f1.f2.f0.f3) (x.f1.f2.f0.f4) (x.f1.f2.f0.f5) (x.f1.f2.f1.f0) (x.f1.f2.f1.f1) (x.f1.f2.f2.f0) (x.f1.f2.f2.f1) (x.f1.f2.f2.f2) (x.f1.f2.f3.f0) (x.f1.f2.f3.f1) (x.f2) (x.f3)) (enV x) := by
  obtain ⟨h1, h2, h3⟩ := h
  unfold spec_enOne.f spec_enRegion.f enV
  simp only [in_val, Option.bind_some]
  refine Ev.bind (spec_enGloss_ev x.f0 (by omega)) ?_
  cases glOK x.f0
  · simp only [Bool.false_eq_true, if_false, Bool.false_and]; exact Ev.now _
  · simp only [if_true, Bool.true_and]
    refine Ev.bind (spec_good_ev (x.f1.f0.f0.f0) (x.f1.f0.f0.f1) (x.f1.f0.f0.f2) (x.f1.f0.f0.f3) (x.f1.f0.f0.f4) (x.f1.f0.f0.f5) (x.f1.f0.f1.f0) (x.f1.f0.f1.f1) (x.f1.f0.f2.f0) (x.f1.f0.f2.f1) (x.f1.f0.f2.f2) (x.f1.f0.f3.f0) (x.f1.f0.f3.f1) (x.f1.f1) (x.f1.f2.f0.f0) (x.f1.f2.f0.f1) (x.f1.f2.f0.f2) (x.f1.f2.f0.f3) (x.f1.f2.f0.f4) (x.f1.f2.f0.f5) (x.f1.f2.f1.f0) (x.f1.f2.f1.f1) (x.f1.f2.f2.f0) (x.f1.f2.f2.f1) (x.f1.f2.f2.f2) (x.f1.f2.f3.f0) (x.f1.f2.f3.f1) h2 h3) ?_
    cases sgOK (x.f1.f0.f0.f0) (x.f1.f0.f0.f1) (x.f1.f0.f0.f2) (x.f1.f0.f0.f3) (x.f1.f0.f0.f4) (x.f1.f0.f0.f5) (x.f1.f0.f1.f0) (x.f1.f0.f1.f1) (x.f1.f0.f2.f0) (x.f1.f0.f2.f1) (x.f1.f0.f2.f2) (x.f1.f0.f3.f0) (x.f1.f0.f3.f1) (x.f1.f1) (x.f1.f2.f0.f0) (x.f1.f2.f0.f1) (x.f1.f2.f0.f2) (x.f1.f2.f0.f3) (x.f1.f2.f0.f4) (x.f1.f2.f0.f5) (x.f1.f2.f1.f0) (x.f1.f2.f1.f1) (x.f1.f2.f2.f0) (x.f1.f2.f2.f1) (x.f1.f2.f2.f2) (x.f1.f2.f3.f0) (x.f1.f2.f3.f1)
    · simp only [Bool.false_eq_true, if_false, Bool.false_and]; exact Ev.now _
    · simp only [if_true, Bool.true_and]
      cases decide (0 ≤ x.f2 ∧ x.f2 ≤ 5)
      · simp only [Bool.false_eq_true, if_false, Bool.false_and]; exact Ev.now _
      · simp only [if_true, Bool.true_and]; exact Ev.now _
theorem impl_one_ev (x : S71) (h : SzE x) : Ev (fun k => impl_isEntry.f k (x.f0) (x.f1.f0.f0.f0) (x.f1.f0.f0.f1) (x.f1.f0.f0.f2) (x.f1.f0.f0.f3) (x.f1.f0.f0.f4) (x.f1.f0.f0.f5) (x.f1.f0.f1.f0) (x.f1.f0.f1.f1) (x.f1.f0.f2.f0) (x.f1.f0.f2.f1) (x.f1.f0.f2.f2) (x.f1.f0.f3.f0) (x.f1.f0.f3.f1) (x.f1.f1) (x.f1.f2.f0.f0) (x.f1.f2.f0.f1) (x.f1.f2.f0.f2) (x.f1.f2.f0.f3) (x.f1.f2.f0.f4) (x.f1.f2.f0.f5) (x.f1.f2.f1.f0) (x.f1.f2.f1.f1) (x.f1.f2.f2.f0) (x.f1.f2.f2.f1) (x.f1.f2.f2.f2) (x.f1.f2.f3.f0) (x.f1.f2.f3.f1) (x.f2) (x.f3)) (enV x) := by
  obtain ⟨h1, h2, h3⟩ := h
  unfold impl_isEntry.f enV
  simp only [within_val, Option.bind_some]
  refine Ev.bind (impl_IsGloss_ev x.f0 (by omega)) ?_
  cases glOK x.f0
  · simp only [Bool.false_eq_true, if_false, Bool.false_and]; exact Ev.now _
  · simp only [if_true, Bool.true_and]
    refine Ev.bind (impl_sign_ev (x.f1.f0.f0.f0) (x.f1.f0.f0.f1) (x.f1.f0.f0.f2) (x.f1.f0.f0.f3) (x.f1.f0.f0.f4) (x.f1.f0.f0.f5) (x.f1.f0.f1.f0) (x.f1.f0.f1.f1) (x.f1.f0.f2.f0) (x.f1.f0.f2.f1) (x.f1.f0.f2.f2) (x.f1.f0.f3.f0) (x.f1.f0.f3.f1) (x.f1.f1) (x.f1.f2.f0.f0) (x.f1.f2.f0.f1) (x.f1.f2.f0.f2) (x.f1.f2.f0.f3) (x.f1.f2.f0.f4) (x.f1.f2.f0.f5) (x.f1.f2.f1.f0) (x.f1.f2.f1.f1) (x.f1.f2.f2.f0) (x.f1.f2.f2.f1) (x.f1.f2.f2.f2) (x.f1.f2.f3.f0) (x.f1.f2.f3.f1) h2 h3) ?_
    cases sgOK (x.f1.f0.f0.f0) (x.f1.f0.f0.f1) (x.f1.f0.f0.f2) (x.f1.f0.f0.f3) (x.f1.f0.f0.f4) (x.f1.f0.f0.f5) (x.f1.f0.f1.f0) (x.f1.f0.f1.f1) (x.f1.f0.f2.f0) (x.f1.f0.f2.f1) (x.f1.f0.f2.f2) (x.f1.f0.f3.f0) (x.f1.f0.f3.f1) (x.f1.f1) (x.f1.f2.f0.f0) (x.f1.f2.f0.f1) (x.f1.f2.f0.f2) (x.f1.f2.f0.f3) (x.f1.f2.f0.f4) (x.f1.f2.f0.f5) (x.f1.f2.f1.f0) (x.f1.f2.f1.f1) (x.f1.f2.f2.f0) (x.f1.f2.f2.f1) (x.f1.f2.f2.f2) (x.f1.f2.f3.f0) (x.f1.f2.f3.f1)
    · simp only [Bool.false_eq_true, if_false, Bool.false_and]; exact Ev.now _
    · simp only [if_true, Bool.true_and]
      cases decide (0 ≤ x.f2 ∧ x.f2 ≤ 5)
      · simp only [Bool.false_eq_true, if_false, Bool.false_and]; exact Ev.now _
      · simp only [if_true, Bool.true_and]; exact Ev.now _
/-- One entry before another. -/
def befV (x y : S71) : Bool := if Op.bytesLess x.f0.toList y.f0.toList = true then true else if x.f0.toList = y.f0.toList then decide (x.f2 < y.f2) else false
theorem spec_bef (x y : S71) : spec_enBefore.f (x.f0) (x.f1.f0.f0.f0) (x.f1.f0.f0.f1) (x.f1.f0.f0.f2) (x.f1.f0.f0.f3) (x.f1.f0.f0.f4) (x.f1.f0.f0.f5) (x.f1.f0.f1.f0) (x.f1.f0.f1.f1) (x.f1.f0.f2.f0) (x.f1.f0.f2.f1) (x.f1.f0.f2.f2) (x.f1.f0.f3.f0) (x.f1.f0.f3.f1) (x.f1.f1) (x.f1.f2.f0.f0) (x.f1.f2.f0.f1) (x.f1.f2.f0.f2) (x.f1.f2.f0.f3) (x.f1.f2.f0.f4) (x.f1.f2.f0.f5) (x.f1.f2.f1.f0) (x.f1.f2.f1.f1) (x.f1.f2.f2.f0) (x.f1.f2.f2.f1) (x.f1.f2.f2.f2) (x.f1.f2.f3.f0) (x.f1.f2.f3.f1) (x.f2) (x.f3) (y.f0) (y.f1.f0.f0.f0) (y.f1.f0.f0.f1) (y.f1.f0.f0.f2) (y.f1.f0.f0.f3) (y.f1.f0.f0.f4) (y.f1.f0.f0.f5) (y.f1.f0.f1.f0) (y.f1.f0.f1.f1) (y.f1.f0.f2.f0) (y.f1.f0.f2.f1) (y.f1.f0.f2.f2) (y.f1.f0.f3.f0) (y.f1.f0.f3.f1) (y.f1.f1) (y.f1.f2.f0.f0) (y.f1.f2.f0.f1) (y.f1.f2.f0.f2) (y.f1.f2.f0.f3) (y.f1.f2.f0.f4) (y.f1.f2.f0.f5) (y.f1.f2.f1.f0) (y.f1.f2.f1.f1) (y.f1.f2.f2.f0) (y.f1.f2.f2.f1) (y.f1.f2.f2.f2) (y.f1.f2.f3.f0) (y.f1.f2.f3.f1) (y.f2) (y.f3) = some (befV x y) := by
  unfold spec_enBefore.f befV
  split
  · rfl
  · split <;> rfl
theorem cmpB : ∀ a b : List UInt8, Lib.compareBytes a b = if Op.bytesLess a b = true then -1 else if a = b then 0 else 1
  | [], [] => rfl
  | [], _ :: _ => rfl
  | _ :: _, [] => by simp [Lib.compareBytes, Op.bytesLess]
  | x :: a, y :: b => by
    have ih := cmpB a b
    simp only [Lib.compareBytes, Op.bytesLess]
    by_cases h1 : x < y
    · simp [h1]
    · by_cases h2 : y < x
      · have h3 : x ≠ y := fun e => by subst e; exact UInt8.lt_irrefl x h2
        simp [h1, h2, h3]
      · have h3 : x = y := UInt8.le_antisymm (UInt8.not_lt.1 h2) (UInt8.not_lt.1 h1)
        subst h3
        simp only [h1, if_false, ih, decide_false, Bool.false_or, beq_self_eq_true, Bool.true_and, List.cons.injEq, true_and]
theorem or2 (u v : Int) : Ev (fun k => cmp_Or_int.f k [u, v]) (if u = 0 then v else u) := by
  have e0 : ∀ k, cmp_Or_int.l0 (k + 1) 0 [u, v] 2 0 = if u = 0 then cmp_Or_int.l0 k 0 [u, v] 2 1 else some u := fun k => by kernel_rfl
  have e1 : ∀ k, cmp_Or_int.l0 (k + 1) 0 [u, v] 2 1 = if v = 0 then cmp_Or_int.l0 k 0 [u, v] 2 2 else some v := fun k => by kernel_rfl
  have e2 : ∀ k, cmp_Or_int.l0 (k + 1) 0 [u, v] 2 2 = some 0 := fun k => by kernel_rfl
  show Ev (fun k => cmp_Or_int.l0 k 0 [u, v] 2 0) _
  by_cases hu : u = 0
  · rw [if_pos hu]
    refine Ev.step (fun k => (e0 k).trans (if_pos hu)) ?_
    by_cases hv : v = 0
    · refine Ev.step (fun k => (e1 k).trans (if_pos hv)) (Ev.step e2 ?_)
      rw [hv]; exact Ev.now _
    · exact Ev.step (f := fun _ => some v) (fun k => (e1 k).trans (if_neg hv)) (Ev.now _)
  · rw [if_neg hu]
    exact Ev.step (f := fun _ => some u) (fun k => (e0 k).trans (if_neg hu)) (Ev.now _)
theorem impl_cmp_ev (x y : S71) : ∃ v : Int, (!decide (v ≥ 0)) = befV x y ∧ Ev (fun k => impl_compareEntries.f k (x.f0) (x.f1.f0.f0.f0) (x.f1.f0.f0.f1) (x.f1.f0.f0.f2) (x.f1.f0.f0.f3) (x.f1.f0.f0.f4) (x.f1.f0.f0.f5) (x.f1.f0.f1.f0) (x.f1.f0.f1.f1) (x.f1.f0.f2.f0) (x.f1.f0.f2.f1) (x.f1.f0.f2.f2) (x.f1.f0.f3.f0) (x.f1.f0.f3.f1) (x.f1.f1) (x.f1.f2.f0.f0) (x.f1.f2.f0.f1) (x.f1.f2.f0.f2) (x.f1.f2.f0.f3) (x.f1.f2.f0.f4) (x.f1.f2.f0.f5) (x.f1.f2.f1.f0) (x.f1.f2.f1.f1) (x.f1.f2.f2.f0) (x.f1.f2.f2.f1) (x.f1.f2.f2.f2) (x.f1.f2.f3.f0) (x.f1.f2.f3.f1) (x.f2) (x.f3) (y.f0) (y.f1.f0.f0.f0) (y.f1.f0.f0.f1) (y.f1.f0.f0.f2) (y.f1.f0.f0.f3) (y.f1.f0.f0.f4) (y.f1.f0.f0.f5) (y.f1.f0.f1.f0) (y.f1.f0.f1.f1) (y.f1.f0.f2.f0) (y.f1.f0.f2.f1) (y.f1.f0.f2.f2) (y.f1.f0.f3.f0) (y.f1.f0.f3.f1) (y.f1.f1) (y.f1.f2.f0.f0) (y.f1.f2.f0.f1) (y.f1.f2.f0.f2) (y.f1.f2.f0.f3) (y.f1.f2.f0.f4) (y.f1.f2.f0.f5) (y.f1.f2.f1.f0) (y.f1.f2.f1.f1) (y.f1.f2.f2.f0) (y.f1.f2.f2.f1) (y.f1.f2.f2.f2) (y.f1.f2.f3.f0) (y.f1.f2.f3.f1) (y.f2) (y.f3)) v := by
  have hc : ∀ a b : Int, cmp_Compare_int.f a b = some (if a < b then -1 else if a > b then 1 else 0) := fun a b => by
    unfold cmp_Compare_int.f cmp_isNaN_int.f
    simp only [bne_self_eq_false, Option.bind_some, Bool.false_eq_true, if_false]
    split
    · rfl
    · split <;> rfl
  unfold impl_compareEntries.f
  simp only [hc, strings_Compare.f, Option.bind_some]
  refine ⟨_, ?_, Ev.bind (or2 _ _) (Ev.now _)⟩
  rw [cmpB]
  unfold befV
  rw [ByteArray.toList_eq, ByteArray.toList_eq]
  by_cases h1 : Op.bytesLess x.f0.data.toList y.f0.data.toList = true
  · simp [h1]
  · rw [if_neg h1, if_neg h1]
    by_cases h2 : x.f0.data.toList = y.f0.data.toList
    · simp only [if_pos h2, if_true]
      by_cases h3 : x.f2 < y.f2
      · simp [h3]
      · rw [if_neg h3, decide_eq_false h3]
        split <;> rfl
    · simp only [if_neg h2]
      rfl
/-- All that follow are valid and in order. -/
def gG (p : S71) : List S71 → Bool
  | [] => true
  | x :: r => enV x && (befV p x && gG x r)
theorem spec_from (L : List S71) (hL : L.length ≤ 1048576) (hz : ∀ x ∈ L, SzE x) : ∀ (e j : Nat) (h0 : 1 ≤ j) (hj : j ≤ L.length), L.length - j = e → Ev (fun k => spec_enGood.l0 k L L (L.length : Int) (j : Int)) (gG (L[j - 1]) (L.drop j) && decide ((L.length : Int) ≤ 16))
  | 0, j, h0, hj, he => by
    rw [List.drop_eq_nil_of_le (by omega)]
    refine Ev.step (f := fun _ => some (decide ((L.length : Int) ≤ 16))) (fun k => ?_) (Ev.now _)
    simp only [spec_enGood.l0]
    rw [if_neg (by omega)]
  | e + 1, j, h0, hj, he => by
    have hlt : j < L.length := by omega
    have hw : wrap64 ((j : Int) + 1) = ((j + 1 : Nat) : Int) := w64_succ (by omega)
    have hw1 : wrap64 ((j : Int) - 1) = ((j - 1 : Nat) : Int) := by rw [w64_i (by omega) (by omega)]; omega
    have d1 : L.drop j = L[j] :: L.drop (j + 1) := List.drop_eq_getElem_cons hlt
    have ih := spec_from L hL hz e (j + 1) (by omega) (by omega) (by omega)
    rw [d1]
    show Ev _ ((enV L[j] && (befV L[j - 1] L[j] && gG L[j] (L.drop (j + 1)))) && decide ((L.length : Int) ≤ 16))
    refine Ev.step (f := fun k => (spec_enOne.f k (L[j].f0) (L[j].f1.f0.f0.f0) (L[j].f1.f0.f0.f1) (L[j].f1.f0.f0.f2) (L[j].f1.f0.f0.f3) (L[j].f1.f0.f0.f4) (L[j].f1.f0.f0.f5) (L[j].f1.f0.f1.f0) (L[j].f1.f0.f1.f1) (L[j].f1.f0.f2.f0) (L[j].f1.f0.f2.f1) (L[j].f1.f0.f2.f2) (L[j].f1.f0.f3.f0) (L[j].f1.f0.f3.f1) (L[j].f1.f1) (L[j].f1.f2.f0.f0) (L[j].f1.f2.f0.f1) (L[j].f1.f2.f0.f2) (L[j].f1.f2.f0.f3) (L[j].f1.f2.f0.f4) (L[j].f1.f2.f0.f5) (L[j].f1.f2.f1.f0) (L[j].f1.f2.f1.f1) (L[j].f1.f2.f2.f0) (L[j].f1.f2.f2.f1) (L[j].f1.f2.f2.f2) (L[j].f1.f2.f3.f0) (L[j].f1.f2.f3.f1) (L[j].f2) (L[j].f3)).bind fun y => if y = true then (if befV L[j - 1] L[j] = true then spec_enGood.l0 k L L (L.length : Int) ((j + 1 : Nat) : Int) else some false) else some false) (fun k => ?_) (Ev.bind (spec_one_ev L[j] (hz _ (List.getElem_mem hlt))) ?_)
    · simp only [spec_enGood.l0, hw, hw1, rdE_at L j hlt, rdE_at L (j - 1) (by omega), spec_bef, Option.bind_some]
      rw [if_pos (by omega), if_pos (by omega), if_pos (by omega)]
      refine congrArg _ (funext fun y => ?_)
      rw [if_pos (show (j : Int) > 0 by omega), if_pos (show (0 : Int) ≤ ((j - 1 : Nat) : Int) by omega), if_pos (show ((j - 1 : Nat) : Int) < (L.length : Int) by omega)]
    · cases enV L[j]
      · simp only [Bool.false_eq_true, if_false, Bool.false_and]; exact Ev.now _
      · simp only [if_true, Bool.true_and]
        cases befV L[j - 1] L[j]
        · simp only [Bool.false_eq_true, if_false, Bool.false_and]; exact Ev.now _
        · simp only [if_true, Bool.true_and]; exact ih
theorem impl_from (L : List S71) (hL : L.length ≤ 1048576) (hz : ∀ x ∈ L, SzE x) : ∀ (e j : Nat) (h0 : 1 ≤ j) (hj : j ≤ L.length), L.length - j = e → Ev (fun k => impl_AreEntries.l0 k L L (L.length : Int) (j : Int)) (gG (L[j - 1]) (L.drop j) && decide ((L.length : Int) ≤ 16))
  | 0, j, h0, hj, he => by
    rw [List.drop_eq_nil_of_le (by omega)]
    refine Ev.step (f := fun _ => some (decide ((L.length : Int) ≤ 16))) (fun k => ?_) (Ev.now _)
    simp only [impl_AreEntries.l0]
    rw [if_neg (by omega)]
  | e + 1, j, h0, hj, he => by
    have hlt : j < L.length := by omega
    have hw : wrap64 ((j : Int) + 1) = ((j + 1 : Nat) : Int) := w64_succ (by omega)
    have hw1 : wrap64 ((j : Int) - 1) = ((j - 1 : Nat) : Int) := by rw [w64_i (by omega) (by omega)]; omega
    have d1 : L.drop j = L[j] :: L.drop (j + 1) := List.drop_eq_getElem_cons hlt
    have ih := impl_from L hL hz e (j + 1) (by omega) (by omega) (by omega)
    obtain ⟨v, hv, hE⟩ := impl_cmp_ev L[j - 1] L[j]
    rw [d1]
    show Ev _ ((enV L[j] && (befV L[j - 1] L[j] && gG L[j] (L.drop (j + 1)))) && decide ((L.length : Int) ≤ 16))
    refine Ev.step (f := fun k => (impl_isEntry.f k (L[j].f0) (L[j].f1.f0.f0.f0) (L[j].f1.f0.f0.f1) (L[j].f1.f0.f0.f2) (L[j].f1.f0.f0.f3) (L[j].f1.f0.f0.f4) (L[j].f1.f0.f0.f5) (L[j].f1.f0.f1.f0) (L[j].f1.f0.f1.f1) (L[j].f1.f0.f2.f0) (L[j].f1.f0.f2.f1) (L[j].f1.f0.f2.f2) (L[j].f1.f0.f3.f0) (L[j].f1.f0.f3.f1) (L[j].f1.f1) (L[j].f1.f2.f0.f0) (L[j].f1.f2.f0.f1) (L[j].f1.f2.f0.f2) (L[j].f1.f2.f0.f3) (L[j].f1.f2.f0.f4) (L[j].f1.f2.f0.f5) (L[j].f1.f2.f1.f0) (L[j].f1.f2.f1.f1) (L[j].f1.f2.f2.f0) (L[j].f1.f2.f2.f1) (L[j].f1.f2.f2.f2) (L[j].f1.f2.f3.f0) (L[j].f1.f2.f3.f1) (L[j].f2) (L[j].f3)).bind fun y => if y = true then ((impl_compareEntries.f k (L[j - 1].f0) (L[j - 1].f1.f0.f0.f0) (L[j - 1].f1.f0.f0.f1) (L[j - 1].f1.f0.f0.f2) (L[j - 1].f1.f0.f0.f3) (L[j - 1].f1.f0.f0.f4) (L[j - 1].f1.f0.f0.f5) (L[j - 1].f1.f0.f1.f0) (L[j - 1].f1.f0.f1.f1) (L[j - 1].f1.f0.f2.f0) (L[j - 1].f1.f0.f2.f1) (L[j - 1].f1.f0.f2.f2) (L[j - 1].f1.f0.f3.f0) (L[j - 1].f1.f0.f3.f1) (L[j - 1].f1.f1) (L[j - 1].f1.f2.f0.f0) (L[j - 1].f1.f2.f0.f1) (L[j - 1].f1.f2.f0.f2) (L[j - 1].f1.f2.f0.f3) (L[j - 1].f1.f2.f0.f4) (L[j - 1].f1.f2.f0.f5) (L[j - 1].f1.f2.f1.f0) (L[j - 1].f1.f2.f1.f1) (L[j - 1].f1.f2.f2.f0) (L[j - 1].f1.f2.f2.f1) (L[j - 1].f1.f2.f2.f2) (L[j - 1].f1.f2.f3.f0) (L[j - 1].f1.f2.f3.f1) (L[j - 1].f2) (L[j - 1].f3) (L[j].f0) (L[j].f1.f0.f0.f0) (L[j].f1.f0.f0.f1) (L[j].f1.f0.f0.f2) (L[j].f1.f0.f0.f3) (L[j].f1.f0.f0.f4) (L[j].f1.f0.f0.f5) (L[j].f1.f0.f1.f0) (L[j].f1.f0.f1.f1) (L[j].f1.f0.f2.f0) (L[j].f1.f0.f2.f1) (L[j].f1.f0.f2.f2) (L[j].f1.f0.f3.f0) (L[j].f1.f0.f3.f1) (L[j].f1.f1) (L[j].f1.f2.f0.f0) (L[j].f1.f2.f0.f1) (L[j].f1.f2.f0.f2) (L[j].f1.f2.f0.f3) (L[j].f1.f2.f0.f4) (L[j].f1.f2.f0.f5) (L[j].f1.f2.f1.f0) (L[j].f1.f2.f1.f1) (L[j].f1.f2.f2.f0) (L[j].f1.f2.f2.f1) (L[j].f1.f2.f2.f2) (L[j].f1.f2.f3.f0) (L[j].f1.f2.f3.f1) (L[j].f2) (L[j].f3)).bind fun z => if z ≥ 0 then some false else impl_AreEntries.l0 k L L (L.length : Int) ((j + 1 : Nat) : Int)) else some false) (fun k => ?_) (Ev.bind (impl_one_ev L[j] (hz _ (List.getElem_mem hlt))) ?_)
    · simp only [impl_AreEntries.l0, hw, hw1, rdE_at L j hlt, rdE_at L (j - 1) (by omega)]
      rw [if_pos (by omega), if_pos (by omega), if_pos (by omega)]
      refine congrArg _ (funext fun y => ?_)
      rw [if_pos (show (j : Int) > 0 by omega), if_pos (show (0 : Int) ≤ ((j - 1 : Nat) : Int) by omega), if_pos (show ((j - 1 : Nat) : Int) < (L.length : Int) by omega)]
    · cases enV L[j]
      · simp only [Bool.false_eq_true, if_false, Bool.false_and]; exact Ev.now _
      · simp only [if_true, Bool.true_and]
        refine Ev.bind hE ?_
        rw [← hv]
        by_cases h : v ≥ 0
        · simp only [if_pos h, decide_eq_true h, Bool.not_true, Bool.false_and]; exact Ev.now _
        · simp only [if_neg h, decide_eq_false h, Bool.not_false, Bool.true_and]; exact ih
theorem both_ev (L : List S71) (hL : L.length ≤ 1048576) (hz : ∀ x ∈ L, SzE x) : ∃ x, Ev (fun k => spec_AreEntries.f k L) x ∧ Ev (fun k => impl_AreEntries.f k L) x := by
  unfold spec_AreEntries.f spec_enGood.f impl_AreEntries.f
  rcases Nat.eq_zero_or_pos L.length with h | h
  · have hi : L = [] := List.eq_nil_of_length_eq_zero h
    subst hi
    refine ⟨true, Ev.bind (Ev.step (f := fun _ => some true) (fun k => ?_) (Ev.now _)) (Ev.now _), Ev.step (f := fun _ => some true) (fun k => ?_) (Ev.now _)⟩
    · simp only [spec_enGood.l0]; rfl
    · simp only [impl_AreEntries.l0]; rfl
  · have e1 := spec_from L hL hz _ 1 (by omega) (by omega) rfl
    have e2 := impl_from L hL hz _ 1 (by omega) (by omega) rfl
    have r0 := rdE_at L 0 h
    rw [show ((0 : Nat) : Int) = 0 from rfl] at r0
    have w1 : wrap64 ((0 : Int) + 1) = 1 := by kernel_rfl
    refine ⟨enV L[0] && (gG (L[1 - 1]) (L.drop 1) && decide ((L.length : Int) ≤ 16)), Ev.bind (Ev.step (f := fun k => (spec_enOne.f k (L[0].f0) (L[0].f1.f0.f0.f0) (L[0].f1.f0.f0.f1) (L[0].f1.f0.f0.f2) (L[0].f1.f0.f0.f3) (L[0].f1.f0.f0.f4) (L[0].f1.f0.f0.f5) (L[0].f1.f0.f1.f0) (L[0].f1.f0.f1.f1) (L[0].f1.f0.f2.f0) (L[0].f1.f0.f2.f1) (L[0].f1.f0.f2.f2) (L[0].f1.f0.f3.f0) (L[0].f1.f0.f3.f1) (L[0].f1.f1) (L[0].f1.f2.f0.f0) (L[0].f1.f2.f0.f1) (L[0].f1.f2.f0.f2) (L[0].f1.f2.f0.f3) (L[0].f1.f2.f0.f4) (L[0].f1.f2.f0.f5) (L[0].f1.f2.f1.f0) (L[0].f1.f2.f1.f1) (L[0].f1.f2.f2.f0) (L[0].f1.f2.f2.f1) (L[0].f1.f2.f2.f2) (L[0].f1.f2.f3.f0) (L[0].f1.f2.f3.f1) (L[0].f2) (L[0].f3)).bind fun y => if y = true then spec_enGood.l0 k L L (L.length : Int) 1 else some false) (fun k => ?_) (Ev.bind (spec_one_ev L[0] (hz _ (List.getElem_mem h))) ?_)) (Ev.now _), Ev.step (f := fun k => (impl_isEntry.f k (L[0].f0) (L[0].f1.f0.f0.f0) (L[0].f1.f0.f0.f1) (L[0].f1.f0.f0.f2) (L[0].f1.f0.f0.f3) (L[0].f1.f0.f0.f4) (L[0].f1.f0.f0.f5) (L[0].f1.f0.f1.f0) (L[0].f1.f0.f1.f1) (L[0].f1.f0.f2.f0) (L[0].f1.f0.f2.f1) (L[0].f1.f0.f2.f2) (L[0].f1.f0.f3.f0) (L[0].f1.f0.f3.f1) (L[0].f1.f1) (L[0].f1.f2.f0.f0) (L[0].f1.f2.f0.f1) (L[0].f1.f2.f0.f2) (L[0].f1.f2.f0.f3) (L[0].f1.f2.f0.f4) (L[0].f1.f2.f0.f5) (L[0].f1.f2.f1.f0) (L[0].f1.f2.f1.f1) (L[0].f1.f2.f2.f0) (L[0].f1.f2.f2.f1) (L[0].f1.f2.f2.f2) (L[0].f1.f2.f3.f0) (L[0].f1.f2.f3.f1) (L[0].f2) (L[0].f3)).bind fun y => if y = true then impl_AreEntries.l0 k L L (L.length : Int) 1 else some false) (fun k => ?_) (Ev.bind (impl_one_ev L[0] (hz _ (List.getElem_mem h))) ?_)⟩
    · simp only [spec_enGood.l0, r0, w1]
      rw [if_pos (by omega), if_pos (by omega), if_pos (by omega)]
      refine congrArg _ (funext fun y => ?_)
      simp only [if_neg (show ¬ (0 : Int) > 0 by decide)]
    · cases enV L[0]
      · simp only [Bool.false_eq_true, if_false, Bool.false_and]; exact Ev.now _
      · simp only [if_true, Bool.true_and]; exact e1
    · simp only [impl_AreEntries.l0, r0, w1]
      rw [if_pos (by omega), if_pos (by omega), if_pos (by omega)]
      refine congrArg _ (funext fun y => ?_)
      simp only [if_neg (show ¬ (0 : Int) > 0 by decide)]
    · cases enV L[0]
      · simp only [Bool.false_eq_true, if_false, Bool.false_and]; exact Ev.now _
      · simp only [if_true, Bool.true_and]; exact e2
end Go.Proofs.YtaaldnaefdodkaaGreatDoor.PA
namespace Go.Proofs.YtaaldnaefdodkaaGreatDoor.Pure
open Go.RowKit Go.Proofs.YtaaldnaefdodkaaGreatDoor.PA Go.Proofs.YtaaldnaefdodkaaGreatDoorW.PrintWords Go.Proofs.YtaaldnaefdodkaaGreatDoorW.PrintLast Go.Proofs.YtaaldnaefdodkaaGreatDoorW.PrintMore
theorem FnExactAreEntries : laws_FnExactAreEntries.Pure := by
  rintro L ⟨hL, hV⟩
  refine Ev.rounds (g := fun k => laws_FnExactAreEntries.f k L) (r := true) ?_
  unfold laws_FnExactAreEntries.f
  obtain ⟨v, e, hv⟩ := szL L hL (fun x hx => ⟨(hV x hx).1, (hV x hx).2.1.1.2.2.2.1, (hV x hx).2.1.2.2.2.2.2.1⟩) 1048576 (by decide) (by decide)
  refine Ev.bind e ?_
  rcases hv with hv | ⟨h0, _, h1, h2⟩
  · exact Ev.congr (f := fun _ => some true) (fun k => by rw [if_pos hv]) (Ev.now _)
  · simp only [if_neg (show ¬ v < 0 by omega)]
    have hl : (L.map asE).length ≤ 1048576 := by simpa using h1
    obtain ⟨x, hx, hy⟩ := both_ev (L.map asE) hl (sz_as L h2)
    refine Ev.bind (toL L h1) (Ev.bind hx (Ev.bind (toL L h1) (Ev.bind hy ?_)))
    simp only [if_true, beq_self_eq_true]
    exact Ev.bind (toL L h1) (Ev.bind (eqL (L.map asE) hl) (Ev.congr (f := fun _ => some true) (fun k => if_pos rfl) (Ev.now _)))
end Go.Proofs.YtaaldnaefdodkaaGreatDoor.Pure
