/- The plain law of the distance of two texts of steps: the program's and the reference's rows are the same. -/
import Derived.Test.YtadddkdfbmbagaaPAx2
import Derived.Test.YtadddkdfbmbagaaQMoveSz
namespace Go.Proofs.Ytadddkdfbmbagaa.PA
open Go.RowKit Go.Proofs.YtadddkdfbmbagaaW.PrintWords Go.Proofs.YtadddkdfbmbagaaW.PrintLast Go.Proofs.YtadddkdfbmbagaaW.PrintMore
set_option linter.unusedVariables false
set_option linter.unusedSimpArgs false
/-- A row of n numbers from 0 to C. -/
def RB (row : List Int) (n : Nat) (C : Int) : Prop := row.length = n ∧ ∀ j : Nat, j < n → 0 ≤ rd row (j : Int) ∧ rd row (j : Int) ≤ C
theorem rd_put (row : List Int) (p j : Nat) (v : Int) (hp : p < row.length) : rd (row.set p v) (j : Int) = if j = p then v else rd row (j : Int) := by
  unfold rd
  simp only [Int.toNat_natCast, List.getD_eq_getElem?_getD, List.getElem?_set]
  by_cases h : j = p
  · subst h; simp [hp]
  · rw [if_neg (fun e => h e.symm), if_neg h]
theorem RB.put {row : List Int} {n : Nat} {C C' : Int} (h : RB row n C) (p : Nat) (hp : p < n) (v : Int) (h0 : 0 ≤ v) (h1 : v ≤ C') (hC : C ≤ C') : RB (row.set p v) n C' := by
  refine ⟨by simpa using h.1, fun j hj => ?_⟩
  rw [rd_put row p j v (by rw [h.1]; exact hp)]
  split
  · exact ⟨h0, h1⟩
  · have := h.2 j hj; exact ⟨this.1, by omega⟩
theorem RB.mono {row : List Int} {n : Nat} {C C' : Int} (h : RB row n C) (hC : C ≤ C') : RB row n C' := ⟨h.1, fun j hj => by have := h.2 j hj; exact ⟨this.1, by omega⟩⟩
def mn2 (p q : Int) : Int := if p < q then p else q
theorem least_val (p q : Int) : spec_l1Least.f p q = some (mn2 p q) := by
  unfold spec_l1Least.f mn2
  split <;> rfl
theorem mn_key (n p q : Int) : mn2 n (mn2 p q + 1) = mn (mn n (p + 1)) (q + 1) := by
  unfold mn mn2
  repeat' split
  all_goals omega
theorem mn_in {n p q C : Int} (h0 : 0 ≤ n) (hn : n ≤ C) (hp : 0 ≤ p) (hq : 0 ≤ q) : 0 ≤ mn (mn n (p + 1)) (q + 1) ∧ mn (mn n (p + 1)) (q + 1) ≤ C := by
  unfold mn
  repeat' split
  all_goals omega
theorem mn2_in {p q C : Int} (hp : 0 ≤ p) (hq : 0 ≤ q) (hp1 : p ≤ C) : 0 ≤ mn2 p q ∧ mn2 p q ≤ C := by
  unfold mn2
  split <;> omega
theorem step_inner (a b : ByteArray) (ha : a.size ≤ 1000) (hb : b.size ≤ 1000) (i : Nat) (hi : i < a.size) : ∀ (d j : Nat) (row : List Int) (before C : Int), b.size - j = d → j ≤ b.size → RB row (b.size + 1) C → 0 ≤ before → before ≤ C → C + (d : Int) ≤ 1000000000 →
    (∀ row' C', RB row' (b.size + 1) C' → C' ≤ C + (d : Int) → C ≤ C' → ∃ v, Ev (fun k => spec_feSteps.l1 k a b row' ((i + 1 : Nat) : Int)) v ∧ Ev (fun k => impl_stepDistance.l1 k a b row' (a.size : Int) ((i + 1 : Nat) : Int)) v) →
    ∃ v, Ev (fun k => spec_feSteps.l2 k a b row (i : Int) before (j : Int)) v ∧ Ev (fun k => impl_stepDistance.l2 k a b row (i : Int) before (a.size : Int) (i : Int) (b.size : Int) (j : Int)) v
  | 0, j, row, before, C, hd, hj, hR, h0, h1, hC, H => by
    obtain ⟨v, e1, e2⟩ := H row C hR (by omega) (by omega)
    have hw : wrap64 ((i : Int) + 1) = ((i + 1 : Nat) : Int) := w64_succ (by omega)
    refine ⟨v, Ev.step (fun k => ?_) e1, Ev.step (fun k => ?_) e2⟩
    · simp only [spec_feSteps.l2, hw]
      rw [if_neg (by omega)]
    · simp only [impl_stepDistance.l2, hw]
      rw [if_neg (by omega)]
  | d + 1, j, row, before, C, hd, hj, hR, h0, h1, hC, H => by
    have hlt : j < b.size := by omega
    have hw : wrap64 ((j : Int) + 1) = ((j + 1 : Nat) : Int) := w64_succ (by omega)
    have r0 := hR.2 j (by omega)
    have r1 := hR.2 (j + 1) (by omega)
    have hl := hR.1
    have hm := mn2_in (C := C) r0.1 r1.1 r0.2
    have hwt : wrap64 (mn2 (rd row (j : Int)) (rd row ((j + 1 : Nat) : Int)) + 1) = mn2 (rd row (j : Int)) (rd row ((j + 1 : Nat) : Int)) + 1 := w64_i (by omega) (by omega)
    have hw0 : wrap64 (rd row (j : Int) + 1) = rd row (j : Int) + 1 := w64_i (by omega) (by omega)
    have hw1 : wrap64 (rd row ((j + 1 : Nat) : Int) + 1) = rd row ((j + 1 : Nat) : Int) + 1 := w64_i (by omega) (by omega)
    have hwb : wrap64 (before + 1) = before + 1 := w64_i (by omega) (by omega)
    have key : ∀ n : Int, 0 ≤ n → n ≤ C + 1 → ∃ v, Ev (fun k => spec_feSteps.l2 k a b (row.set (j + 1) (mn (mn n (rd row (j : Int) + 1)) (rd row ((j + 1 : Nat) : Int) + 1))) (i : Int) (rd row ((j + 1 : Nat) : Int)) ((j + 1 : Nat) : Int)) v ∧ Ev (fun k => impl_stepDistance.l2 k a b (row.set (j + 1) (mn (mn n (rd row (j : Int) + 1)) (rd row ((j + 1 : Nat) : Int) + 1))) (i : Int) (rd row ((j + 1 : Nat) : Int)) (a.size : Int) (i : Int) (b.size : Int) ((j + 1 : Nat) : Int)) v := by
      intro n hn0 hn1
      have hv := mn_in hn0 hn1 r0.1 r1.1
      exact step_inner a b ha hb i hi d (j + 1) _ _ (C + 1) (by omega) (by omega) (hR.put (j + 1) (by omega) _ hv.1 hv.2 (by omega)) r1.1 (by omega) (by omega) (fun row' C' hR' h1' h2' => H row' C' hR' (by omega) (by omega))
    by_cases he : bt a (i : Int) = bt b (j : Int)
    · obtain ⟨v, e1, e2⟩ := key before h0 (by omega)
      refine ⟨v, Ev.step (fun k => ?_) e1, Ev.step (fun k => ?_) e2⟩
      · simp only [spec_feSteps.l2, hw, Int.toNat_natCast]
        rw [if_pos (by omega), if_pos (by omega), if_pos (by omega), if_pos (by omega), if_pos he, if_pos (by omega), if_pos (by omega), if_pos (by omega), least_val, Option.bind_some, hwt, least_val, Option.bind_some, mn_key]
      · simp only [impl_stepDistance.l2, hw, Int.toNat_natCast, hw0, hw1]
        rw [if_pos (by omega), if_pos (by omega), if_pos (by omega), if_pos (by omega), if_pos (by omega), if_pos he, if_pos (by omega), if_pos (by omega), if_pos (by omega)]
    · obtain ⟨v, e1, e2⟩ := key (before + 1) (by omega) (by omega)
      refine ⟨v, Ev.step (fun k => ?_) e1, Ev.step (fun k => ?_) e2⟩
      · simp only [spec_feSteps.l2, hw, hwb, Int.toNat_natCast]
        rw [if_pos (by omega), if_pos (by omega), if_pos (by omega), if_pos (by omega), if_neg he, if_pos (by omega), if_pos (by omega), if_pos (by omega), least_val, Option.bind_some, hwt, least_val, Option.bind_some, mn_key]
      · simp only [impl_stepDistance.l2, hw, hwb, Int.toNat_natCast, hw0, hw1]
        rw [if_pos (by omega), if_pos (by omega), if_pos (by omega), if_pos (by omega), if_pos (by omega), if_neg he, if_pos (by omega), if_pos (by omega), if_pos (by omega)]
theorem step_outer (a b : ByteArray) (ha : a.size ≤ 1000) (hb : b.size ≤ 1000) : ∀ (d i : Nat) (row : List Int) (C : Int), a.size - i = d → i ≤ a.size → RB row (b.size + 1) C → 1001 ≤ C → C + (d : Int) * 1001 ≤ 1000000000 →
    ∃ v, Ev (fun k => spec_feSteps.l1 k a b row (i : Int)) v ∧ Ev (fun k => impl_stepDistance.l1 k a b row (a.size : Int) (i : Int)) v
  | 0, i, row, C, hd, hi, hR, h1, hC => by
    have hl := hR.1
    refine ⟨rd row (b.size : Int), Ev.step (f := fun _ => some (rd row (b.size : Int))) (fun k => ?_) (Ev.now _), Ev.step (f := fun _ => some (rd row (b.size : Int))) (fun k => ?_) (Ev.now _)⟩
    · simp only [spec_feSteps.l1]
      rw [if_neg (by omega), if_pos (by omega), if_pos (by omega)]
    · simp only [impl_stepDistance.l1]
      rw [if_neg (by omega), if_pos (by omega), if_pos (by omega)]
  | d + 1, i, row, C, hd, hi, hR, h1, hC => by
    have hl := hR.1
    have hw : wrap64 ((i : Int) + 1) = ((i + 1 : Nat) : Int) := w64_succ (by omega)
    have r0 := hR.2 0 (by omega)
    obtain ⟨v, e1, e2⟩ := step_inner a b ha hb i (by omega) b.size 0 (row.set 0 ((i + 1 : Nat) : Int)) (rd row 0) C (by omega) (Nat.zero_le _) (hR.put 0 (by omega) _ (by omega) (by omega) (Int.le_refl _)) r0.1 r0.2 (by omega) (fun row' C' hR' hc1 hc2 => step_outer a b ha hb d (i + 1) row' C' (by omega) (by omega) hR' (by omega) (by omega))
    refine ⟨v, Ev.step (fun k => ?_) e1, Ev.step (fun k => ?_) e2⟩
    · simp only [spec_feSteps.l1, hw]
      rw [if_pos (by omega), if_pos (by omega)]
      rfl
    · simp only [impl_stepDistance.l1, hw]
      rw [if_pos (by omega), if_pos (by omega)]
      rfl
theorem step_init (a b : ByteArray) (ha : a.size ≤ 1000) (hb : b.size ≤ 1000) : ∀ (d j : Nat) (row : List Int), b.size + 1 - j = d → j ≤ b.size + 1 → RB row (b.size + 1) 1001 →
    ∃ v, Ev (fun k => spec_feSteps.l0 k a b row ((b.size + 1 : Nat) : Int) (j : Int)) v ∧ Ev (fun k => impl_stepDistance.l0 k a b row ((b.size + 1 : Nat) : Int) (j : Int)) v
  | 0, j, row, hd, hj, hR => by
    obtain ⟨v, e1, e2⟩ := step_outer a b ha hb a.size 0 row 1001 (by omega) (Nat.zero_le _) hR (by omega) (by omega)
    refine ⟨v, Ev.step (fun k => ?_) e1, Ev.step (fun k => ?_) e2⟩
    · simp only [spec_feSteps.l0]
      rw [if_neg (by omega)]
      rfl
    · simp only [impl_stepDistance.l0]
      rw [if_neg (by omega)]
      rfl
  | d + 1, j, row, hd, hj, hR => by
    have hl := hR.1
    have hw : wrap64 ((j : Int) + 1) = ((j + 1 : Nat) : Int) := w64_succ (by omega)
    obtain ⟨v, e1, e2⟩ := step_init a b ha hb d (j + 1) (row.set j (j : Int)) (by omega) (by omega) (hR.put j (by omega) _ (by omega) (by omega) (Int.le_refl _))
    refine ⟨v, Ev.step (fun k => ?_) e1, Ev.step (fun k => ?_) e2⟩
    · simp only [spec_feSteps.l0, hw, Int.toNat_natCast]
      rw [if_pos (by omega), if_pos (by omega), if_pos (by omega)]
    · simp only [impl_stepDistance.l0, hw, Int.toNat_natCast]
      rw [if_pos (by omega), if_pos (by omega), if_pos (by omega)]
theorem steps_same (a b : ByteArray) (ha : a.size ≤ 1000) (hb : b.size ≤ 1000) : ∃ v, Ev (fun k => spec_feSteps.f k a b) v ∧ Ev (fun k => impl_stepDistance.f k a b) v := by
  have hw : wrap64 ((b.size : Int) + 1) = ((b.size + 1 : Nat) : Int) := w64_succ (by omega)
  have hR : RB (List.replicate (b.size + 1) 0) (b.size + 1) 1001 := by
    refine ⟨by simp, fun j hj => ?_⟩
    have : rd (List.replicate (b.size + 1) 0) (j : Int) = 0 := by
      unfold rd
      simp [List.getD_eq_getElem?_getD, List.getElem?_replicate, hj]
    rw [this]; omega
  obtain ⟨v, e1, e2⟩ := step_init a b ha hb _ 0 _ rfl (Nat.zero_le _) hR
  refine ⟨v, Ev.congr (fun k => ?_) e1, Ev.congr (fun k => ?_) e2⟩
  · unfold spec_feSteps.f
    simp only [hw, Int.toNat_natCast, Option.bind_some, List.length_replicate]
    rw [if_pos (by omega), if_pos (by omega)]
    rfl
  · unfold impl_stepDistance.f
    simp only [hw, Int.toNat_natCast, Option.bind_some, List.length_replicate]
    rw [if_pos (by omega), if_pos (by omega)]
    rfl
end Go.Proofs.Ytadddkdfbmbagaa.PA
