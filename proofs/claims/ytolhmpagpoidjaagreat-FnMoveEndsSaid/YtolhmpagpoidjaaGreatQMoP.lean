/- What is made of a text of steps. -/
import Derived.Test.YtolhmpagpoidjaaGreatQMoveN
import Derived.Test.YtolhmpagpoidjaaGreatQJoinMovesR
namespace Go.Proofs.YtolhmpagpoidjaaGreat.PA
open Go.RowKit Go.Proofs.YtolhmpagpoidjaaGreatW.PrintWords Go.Proofs.YtolhmpagpoidjaaGreatW.PrintLast Go.Proofs.YtolhmpagpoidjaaGreatW.PrintMore
set_option linter.unusedVariables false
set_option linter.unusedSimpArgs false
theorem mo_props {t : ByteArray} (hdt : (t.data.toList.all fun x => decide (0 ≤ dirIdx (x.toNat : Int))) = true) (hk : (moV t).2.2 = true) : mvOK (moV t).1 (moV t).2.1 = true ∧ mvSt (moV t).1 (moV t).2.1 = t := by
  by_cases he : t.toList = []
  · have e : moV t = (⟨#[]⟩, 1, true) := by unfold moV; rw [if_pos he]
    rw [e]
    refine ⟨by decide +kernel, ?_⟩
    refine bs_ext ?_
    rw [← bs_list] at he
    rw [he]
    rfl
  · obtain ⟨x, hx1, hx3, hxh, hv⟩ : ∃ x, 1 ≤ x ∧ x ≤ 3 ∧ moHit t x = true ∧ moV t = (moCut t x, (x : Int), true) := by
      by_cases g3 : moHit t 3 = true
      · exact ⟨3, by omega, by omega, g3, by unfold moV; rw [if_neg he, if_pos g3]; rfl⟩
      · by_cases g2 : moHit t 2 = true
        · exact ⟨2, by omega, by omega, g2, by unfold moV; rw [if_neg he, if_neg g3, if_pos g2]; rfl⟩
        · by_cases g1 : moHit t 1 = true
          · exact ⟨1, by omega, by omega, g1, by unfold moV; rw [if_neg he, if_neg g3, if_neg g2, if_pos g1]; rfl⟩
          · exfalso
            unfold moV at hk
            rw [if_neg he, if_neg g3, if_neg g2, if_neg g1] at hk
            cases hk
    rw [hv]
    obtain ⟨q1, q2⟩ := (moHit_iff t x).mp hxh
    have hc : (moCut t x).size = t.size / x := by rw [moCut_size]; have := Nat.div_le_self t.size x; omega
    have hst : rep (moCut t x) x = t := bs_toList_inj q2
    refine ⟨mvOK_of (by simp only []; omega) ?_ ⟨by simp only []; omega, by simp only []; omega⟩ (fun e => ?_), ?_⟩
    · simp only []
      unfold moCut
      rw [ext_list]
      exact all_take hdt _
    · exfalso
      apply he
      rw [list_nil] at e ⊢
      rw [← hst, rep_size]
      simp only [] at e
      rw [e, Nat.mul_zero]
    · show rep (moCut t x) (x : Int).toNat = t
      exact hst
theorem mvSt_dirs {s : ByteArray} {n : Int} (h : mvOK s n = true) : ((mvSt s n).data.toList.all fun x => decide (0 ≤ dirIdx (x.toNat : Int))) = true := by
  unfold mvSt
  rw [rep_list]
  exact all_rep (mvOK_dirs h) _
/-- A joined movement has all steps. -/
theorem jm_props {s t : ByteArray} {n m : Int} (hk : (jmV s n t m).2.2 = true) : mvOK s n = true ∧ mvOK t m = true ∧ mvOK (jmV s n t m).1 (jmV s n t m).2.1 = true ∧ mvSt (jmV s n t m).1 (jmV s n t m).2.1 = mvSt s n ++ mvSt t m := by
  unfold jmV at hk ⊢
  split at hk
  · rename_i h
    rw [if_pos h]
    have hd : ((mvSt s n ++ mvSt t m).data.toList.all fun x => decide (0 ≤ dirIdx (x.toNat : Int))) = true := by
      rw [ByteArray.data_append, Array.toList_append, List.all_append, mvSt_dirs h.1, mvSt_dirs h.2]
      rfl
    exact ⟨h.1, h.2, mo_props hd hk⟩
  · cases hk
end Go.Proofs.YtolhmpagpoidjaaGreat.PA
