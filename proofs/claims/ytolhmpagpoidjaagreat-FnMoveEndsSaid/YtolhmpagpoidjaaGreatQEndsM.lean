/- Mirrored movements: twice is the same, and where they end. -/
import Derived.Test.YtolhmpagpoidjaaGreatQEndsP
import Derived.Test.YtolhmpagpoidjaaGreatQMirrorR
import Derived.Test.YtolhmpagpoidjaaGreatQJoinMovesR
namespace Go.Proofs.YtolhmpagpoidjaaGreat.PA
open Go.RowKit Go.Proofs.YtolhmpagpoidjaaGreatW.PrintWords Go.Proofs.YtolhmpagpoidjaaGreatW.PrintLast Go.Proofs.YtolhmpagpoidjaaGreatW.PrintMore
set_option linter.unusedVariables false
set_option linter.unusedSimpArgs false
theorem mirB_dir {x : UInt8} (h : 0 ≤ dirIdx (x.toNat : Int)) : mirB (mirB x) = x ∧ 0 ≤ dirIdx ((mirB x).toNat : Int) := by
  rcases dir_cases h with rfl | rfl | rfl | rfl | rfl | rfl <;> decide +kernel
theorem mirS_list (s : ByteArray) : (mirS s).data.toList = s.data.toList.map mirB := by
  unfold mirS
  simp
theorem mirS_len (s : ByteArray) : (mirS s).size = s.size := by
  rw [← bs_len, mirS_list, List.length_map, bs_len]
theorem mirS_dirs {s : ByteArray} (h : (s.data.toList.all fun x => decide (0 ≤ dirIdx (x.toNat : Int))) = true) : ((mirS s).data.toList.all fun x => decide (0 ≤ dirIdx (x.toNat : Int))) = true := by
  rw [mirS_list, List.all_eq_true]
  intro x hx
  obtain ⟨y, hy, rfl⟩ := List.mem_map.mp hx
  exact decide_eq_true (mirB_dir (of_decide_eq_true (List.all_eq_true.mp h _ hy))).2
theorem mirS_ok {s : ByteArray} {n : Int} (h : mvOK s n = true) : mvOK (mirS s) n = true := by
  obtain ⟨h6, h1, h3, h0⟩ := mvOK_parts h
  refine mvOK_of (by rw [mirS_len]; exact h6) (mirS_dirs (mvOK_dirs h)) ⟨h1, h3⟩ (fun e => h0 (list_nil.mpr ?_))
  rw [← mirS_len]
  exact list_nil.mp e
theorem mirS_twice {s : ByteArray} (h : (s.data.toList.all fun x => decide (0 ≤ dirIdx (x.toNat : Int))) = true) : mirS (mirS s) = s := by
  refine bs_ext ?_
  rw [mirS_list, mirS_list, List.map_map]
  refine (List.map_congr_left fun x hx => ?_).trans (List.map_id _)
  exact (mirB_dir (of_decide_eq_true (List.all_eq_true.mp h _ hx))).1
theorem cntB_mir {s : ByteArray} {n : Int} (h : mvOK s n = true) {c d : UInt8} (hcd : ∀ x : UInt8, 0 ≤ dirIdx (x.toNat : Int) → (mirB x = c ↔ x = d)) : cntB (mvSt (mirS s) n) c = cntB (mvSt s n) d := by
  rw [cntB_st, cntB_st, mirS_list, count_map (d := d) (fun x hx => hcd x (of_decide_eq_true (List.all_eq_true.mp (mvOK_dirs h) _ hx)))]
/-- The mirrored movement ends on the other side. -/
theorem eeV_mir {s : ByteArray} {n : Int} (h : mvOK s n = true) : eeV (mirS s) n = (wrap64 (-(eeV s n).1), (eeV s n).2.1, (eeV s n).2.2.1, true) := by
  have r := fun c => cnt_range h c
  have key : wrap64 (cntB (mvSt s n) 108 - cntB (mvSt s n) 114) = wrap64 (-(wrap64 (cntB (mvSt s n) 114 - cntB (mvSt s n) 108))) := by
    have := r 108
    have := r 114
    rw [w64_i (by omega) (by omega), w64_i (x := cntB (mvSt s n) 114 - cntB (mvSt s n) 108) (by omega) (by omega), w64_i (by omega) (by omega)]
    omega
  have e : ∀ c d : UInt8, (∀ x : UInt8, 0 ≤ dirIdx (x.toNat : Int) → (mirB x = c ↔ x = d)) → cntB (mvSt (mirS s) n) c = cntB (mvSt s n) d := fun c d => cntB_mir h
  unfold eeV
  rw [if_pos (mirS_ok h), if_pos h]
  unfold emV
  rw [e 114 108 (fun x hx => by rcases dir_cases hx with rfl | rfl | rfl | rfl | rfl | rfl <;> decide), e 108 114 (fun x hx => by rcases dir_cases hx with rfl | rfl | rfl | rfl | rfl | rfl <;> decide), e 117 117 (fun x hx => by rcases dir_cases hx with rfl | rfl | rfl | rfl | rfl | rfl <;> decide), e 100 100 (fun x hx => by rcases dir_cases hx with rfl | rfl | rfl | rfl | rfl | rfl <;> decide), e 102 102 (fun x hx => by rcases dir_cases hx with rfl | rfl | rfl | rfl | rfl | rfl <;> decide), e 98 98 (fun x hx => by rcases dir_cases hx with rfl | rfl | rfl | rfl | rfl | rfl <;> decide), key]
/-- Joined movements have all steps. -/
theorem jm_all {s t : ByteArray} {n m : Int} (hk : (jmV s n t m).2.2 = true) : mvOK s n = true ∧ mvOK t m = true ∧ jmV s n t m = moV (mvSt s n ++ mvSt t m) := by
  unfold jmV at hk ⊢
  split at hk
  · rename_i h; rw [if_pos h]; exact ⟨h.1, h.2, rfl⟩
  · cases hk
end Go.Proofs.YtolhmpagpoidjaaGreat.PA
