/- Ways back and mirrored movements: twice is the same, and where they end. -/
import Derived.Test.YtolhmpagpoidjaaGreatQBackR
import Derived.Test.YtolhmpagpoidjaaGreatQEndR
namespace Go.Proofs.YtolhmpagpoidjaaGreat.PA
open Go.RowKit Go.Proofs.YtolhmpagpoidjaaGreatW.PrintWords Go.Proofs.YtolhmpagpoidjaaGreatW.PrintLast Go.Proofs.YtolhmpagpoidjaaGreatW.PrintMore
set_option linter.unusedVariables false
set_option linter.unusedSimpArgs false
theorem flL_dir {x : UInt8} (h : 0 ≤ dirIdx (x.toNat : Int)) : flL (flL x) = x ∧ 0 ≤ dirIdx ((flL x).toNat : Int) := by
  rcases dir_cases h with rfl | rfl | rfl | rfl | rfl | rfl <;> decide +kernel
theorem bkS_list (s : ByteArray) : (bkS s).data.toList = s.data.toList.reverse.map flL := by
  unfold bkS backPre
  rw [List.drop_zero]
theorem bkS_size (s : ByteArray) : (bkS s).size = s.size := by
  rw [← bs_len, bkS_list, List.length_map, List.length_reverse, bs_len]
theorem bkS_dirs {s : ByteArray} (h : (s.data.toList.all fun x => decide (0 ≤ dirIdx (x.toNat : Int))) = true) : ((bkS s).data.toList.all fun x => decide (0 ≤ dirIdx (x.toNat : Int))) = true := by
  rw [bkS_list, List.all_eq_true]
  intro x hx
  obtain ⟨y, hy, rfl⟩ := List.mem_map.mp hx
  exact decide_eq_true (flL_dir (of_decide_eq_true (List.all_eq_true.mp h _ (List.mem_reverse.mp hy)))).2
theorem bkS_ok {s : ByteArray} {n : Int} (h : mvOK s n = true) : mvOK (bkS s) n = true := by
  obtain ⟨h6, h1, h3, h0⟩ := mvOK_parts h
  refine mvOK_of (by rw [bkS_size]; exact h6) (bkS_dirs (mvOK_dirs h)) ⟨h1, h3⟩ (fun e => h0 (list_nil.mpr ?_))
  rw [← bkS_size]
  exact list_nil.mp e
theorem bkS_bkS {s : ByteArray} (h : (s.data.toList.all fun x => decide (0 ≤ dirIdx (x.toNat : Int))) = true) : bkS (bkS s) = s := by
  refine bs_ext ?_
  rw [bkS_list, bkS_list, ← List.map_reverse, List.reverse_reverse, List.map_map]
  refine (List.map_congr_left fun x hx => ?_).trans (List.map_id _)
  exact (flL_dir (of_decide_eq_true (List.all_eq_true.mp h _ hx))).1
theorem rvV_twice {s : ByteArray} {n : Int} (h : mvOK s n = true) : rvV (bkS s) n = (s, n, true) := by
  unfold rvV
  rw [if_pos (bkS_ok h), bkS_bkS (mvOK_dirs h)]
theorem count_rep (l : List UInt8) (c : UInt8) : ∀ m, (Lib.repeatL l m).count c = m * l.count c
  | 0 => by simp [Lib.repeatL]
  | m + 1 => by rw [Lib.repeatL, List.count_append, count_rep l c m, Nat.succ_mul, Nat.add_comm]
theorem cntB_st (s : ByteArray) (n : Int) (c : UInt8) : cntB (mvSt s n) c = ((n.toNat * s.data.toList.count c : Nat) : Int) := by
  show (((mvSt s n).data.toList.count c : Nat) : Int) = _
  unfold mvSt
  rw [rep_list, count_rep]
/-- A map of letters that goes back and forth tells each letter by another. -/
theorem count_map {f : UInt8 → UInt8} {c d : UInt8} : ∀ {l : List UInt8}, (∀ x ∈ l, (f x = c ↔ x = d)) → (l.map f).count c = l.count d
  | [], _ => rfl
  | x :: l, h => by
    rw [List.map_cons, List.count_cons, List.count_cons, count_map fun y hy => h y (List.mem_cons_of_mem _ hy)]
    have := h x List.mem_cons_self
    by_cases e : x = d
    · rw [if_pos (by simpa using this.mpr e), if_pos (by simpa using e)]
    · rw [if_neg (by simpa using fun q => e (this.mp q)), if_neg (by simpa using e)]
theorem cntB_bk {s : ByteArray} {n : Int} (h : mvOK s n = true) {c d : UInt8} (hcd : ∀ x : UInt8, 0 ≤ dirIdx (x.toNat : Int) → (flL x = c ↔ x = d)) : cntB (mvSt (bkS s) n) c = cntB (mvSt s n) d := by
  rw [cntB_st, cntB_st, bkS_list, count_map (d := d) (fun x hx => hcd x (of_decide_eq_true (List.all_eq_true.mp (mvOK_dirs h) _ (List.mem_reverse.mp hx)))), List.count_reverse]
theorem cnt_range {s : ByteArray} {n : Int} (h : mvOK s n = true) (c : UInt8) : 0 ≤ cntB (mvSt s n) c ∧ cntB (mvSt s n) c ≤ 18 := by
  obtain ⟨h6, h1, h3, _⟩ := mvOK_parts h
  rw [cntB_st]
  have h4 : s.data.toList.count c ≤ 6 := Nat.le_trans List.count_le_length (by rw [bs_len]; exact h6)
  have h5 : n.toNat ≤ 3 := by omega
  have := Nat.mul_le_mul h5 h4
  omega
/-- The way back ends at the opposite place. -/
theorem eeV_bk {s : ByteArray} {n : Int} (h : mvOK s n = true) : eeV (bkS s) n = (wrap64 (-(eeV s n).1), wrap64 (-(eeV s n).2.1), wrap64 (-(eeV s n).2.2.1), true) := by
  have r := fun c => cnt_range h c
  have key : ∀ c d : UInt8, wrap64 (cntB (mvSt s n) d - cntB (mvSt s n) c) = wrap64 (-(wrap64 (cntB (mvSt s n) c - cntB (mvSt s n) d))) := fun c d => by
    have := r c
    have := r d
    rw [w64_i (by omega) (by omega), w64_i (x := cntB (mvSt s n) c - cntB (mvSt s n) d) (by omega) (by omega), w64_i (by omega) (by omega)]
    omega
  have e : ∀ c d : UInt8, (∀ x : UInt8, 0 ≤ dirIdx (x.toNat : Int) → (flL x = c ↔ x = d)) → cntB (mvSt (bkS s) n) c = cntB (mvSt s n) d := fun c d => cntB_bk h
  unfold eeV
  rw [if_pos (bkS_ok h), if_pos h]
  unfold emV
  rw [e 114 108 (fun x hx => by rcases dir_cases hx with rfl | rfl | rfl | rfl | rfl | rfl <;> decide), e 108 114 (fun x hx => by rcases dir_cases hx with rfl | rfl | rfl | rfl | rfl | rfl <;> decide), e 117 100 (fun x hx => by rcases dir_cases hx with rfl | rfl | rfl | rfl | rfl | rfl <;> decide), e 100 117 (fun x hx => by rcases dir_cases hx with rfl | rfl | rfl | rfl | rfl | rfl <;> decide), e 102 98 (fun x hx => by rcases dir_cases hx with rfl | rfl | rfl | rfl | rfl | rfl <;> decide), e 98 102 (fun x hx => by rcases dir_cases hx with rfl | rfl | rfl | rfl | rfl | rfl <;> decide)]
  rw [key 114 108, key 117 100, key 102 98]
end Go.Proofs.YtolhmpagpoidjaaGreat.PA
