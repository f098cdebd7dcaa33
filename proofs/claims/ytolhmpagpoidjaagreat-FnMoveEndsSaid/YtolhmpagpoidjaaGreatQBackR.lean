/- The way back of a movement, by the reference. -/
import Derived.Test.YtolhmpagpoidjaaGreatPAx1
import Derived.Test.YtolhmpagpoidjaaGreatQMoves
import Derived.Test.YtolhmpagpoidjaaGreatQMoveN
namespace Go.Proofs.YtolhmpagpoidjaaGreat.PA
open Go.RowKit Go.Proofs.YtolhmpagpoidjaaGreatW.PrintWords Go.Proofs.YtolhmpagpoidjaaGreatW.PrintLast Go.Proofs.YtolhmpagpoidjaaGreatW.PrintMore
set_option linter.unusedVariables false
set_option linter.unusedSimpArgs false
/-- The opposite letter. -/
def flL (x : UInt8) : UInt8 := if x = 117 then 100 else if x = 100 then 117 else if x = 108 then 114 else if x = 114 then 108 else if x = 102 then 98 else if x = 98 then 102 else x
theorem dir_fin : ∀ x : Fin 256, decide (0 ≤ dirIdx (x.val : Int)) = true → x.val = 117 ∨ x.val = 100 ∨ x.val = 108 ∨ x.val = 114 ∨ x.val = 102 ∨ x.val = 98 := by decide +kernel
theorem dir_cases {x : UInt8} (h : 0 ≤ dirIdx (x.toNat : Int)) : x = 117 ∨ x = 100 ∨ x = 108 ∨ x = 114 ∨ x = 102 ∨ x = 98 := by
  have := dir_fin ⟨x.toNat, x.toNat_lt⟩ (decide_eq_true h)
  simp only [← UInt8.toNat_inj]
  exact this
/-- Where the opposite letter stands. -/
def opIdx (x : Int) : Int := wrap64 (dirIdx x + wrap64 (1 - wrap64 (2 * Int.tmod (dirIdx x) 2)))
def dirBA : ByteArray := ⟨#[117, 100, 108, 114, 102, 98]⟩
theorem op_step {x : UInt8} (h : 0 ≤ dirIdx (x.toNat : Int)) : 0 ≤ opIdx x.toNat ∧ opIdx x.toNat ≤ wrap64 (opIdx x.toNat + 1) ∧ wrap64 (opIdx x.toNat + 1) ≤ (dirBA.size : Int) ∧ dirBA.extract (opIdx x.toNat).toNat (wrap64 (opIdx x.toNat + 1)).toNat = ⟨#[flL x]⟩ := by
  rcases dir_cases h with rfl | rfl | rfl | rfl | rfl | rfl <;> decide +kernel
/-- The letters from i on, backwards and opposite. -/
def backPre (s : ByteArray) (i : Nat) : ByteArray := ⟨(((s.data.toList.drop i).reverse).map flL).toArray⟩
def bkS (s : ByteArray) : ByteArray := backPre s 0
theorem backPre_size (s : ByteArray) (i : Nat) : (backPre s i).size = s.size - i := by
  show (((s.data.toList.drop i).reverse).map flL).toArray.size = _
  rw [List.size_toArray, List.length_map, List.length_reverse, List.length_drop, bs_len]
theorem backPre_step (s : ByteArray) (i : Nat) (h : i < s.data.toList.length) : backPre s (i + 1) ++ (⟨#[flL (s.data.toList[i])]⟩ : ByteArray) = backPre s i := by
  refine bs_ext ?_
  unfold backPre
  rw [List.drop_eq_getElem_cons h]
  simp [ByteArray.data_append]
theorem spec_back_from (s : ByteArray) (n : Int) (hs : s.size ≤ 1000) (hd : (s.data.toList.all fun x => decide (0 ≤ dirIdx (x.toNat : Int))) = true) : ∀ i : Nat, i ≤ s.size → Ev (fun k => spec_mvBack.l0 k (backPre s i) ((i : Int) - 1) s n) (bkS s, n)
  | 0, _ => by
    refine Ev.step (f := fun _ => some (bkS s, n)) (fun k => ?_) (Ev.now _)
    simp only [spec_mvBack.l0]
    rw [if_neg (by omega)]
    rfl
  | i + 1, hi => by
    have hl : i < s.data.toList.length := by rw [bs_len]; omega
    have hx : 0 ≤ dirIdx ((s.data.toList[i]).toNat : Int) := of_decide_eq_true (List.all_eq_true.mp hd _ (List.getElem_mem hl))
    obtain ⟨h1, h2, h3, h4⟩ := op_step hx
    have hb := bt_at s i (by omega)
    have hix := spec_mvIndex_ev s (i : Int)
    rw [hb] at hix
    have hz := backPre_size s (i + 1)
    refine Ev.step (f := fun k => (spec_mvIndex.f k (((s.data.toList[i]).toNat : Int))).bind fun t => (spec_mvLetters.f).bind fun u => if 0 ≤ (wrap64 (t + (wrap64 (1 - (wrap64 (2 * (Int.tmod t 2))))))) then (if (wrap64 (t + (wrap64 (1 - (wrap64 (2 * (Int.tmod t 2))))))) ≤ (wrap64 ((wrap64 (t + (wrap64 (1 - (wrap64 (2 * (Int.tmod t 2))))))) + 1)) then (if (wrap64 ((wrap64 (t + (wrap64 (1 - (wrap64 (2 * (Int.tmod t 2))))))) + 1)) ≤ (u.size : Int) then (if (backPre s (i + 1)).size + (u.extract ((wrap64 (t + (wrap64 (1 - (wrap64 (2 * (Int.tmod t 2))))))) : Int).toNat ((wrap64 ((wrap64 (t + (wrap64 (1 - (wrap64 (2 * (Int.tmod t 2))))))) + 1)) : Int).toNat).size ≤ 9223372036854775807 then (spec_mvBack.l0 k (backPre s (i + 1) ++ (u.extract ((wrap64 (t + (wrap64 (1 - (wrap64 (2 * (Int.tmod t 2))))))) : Int).toNat ((wrap64 ((wrap64 (t + (wrap64 (1 - (wrap64 (2 * (Int.tmod t 2))))))) + 1)) : Int).toNat)) ((i : Int) - 1) s n) else none) else none) else none) else none) (fun k => ?_) ?_
    · simp only [spec_mvBack.l0]
      rw [if_pos (by omega), if_pos (by omega), if_pos (by omega), show ((i + 1 : Nat) : Int) - 1 = (i : Int) by omega, hb, w64_i (by omega) (by omega)]
    · refine Ev.bind hix ?_
      show Ev (fun k => if 0 ≤ opIdx ((s.data.toList[i]).toNat : Int) then (if opIdx ((s.data.toList[i]).toNat : Int) ≤ wrap64 (opIdx ((s.data.toList[i]).toNat : Int) + 1) then (if wrap64 (opIdx ((s.data.toList[i]).toNat : Int) + 1) ≤ (dirBA.size : Int) then (if (backPre s (i + 1)).size + (dirBA.extract (opIdx ((s.data.toList[i]).toNat : Int)).toNat (wrap64 (opIdx ((s.data.toList[i]).toNat : Int) + 1)).toNat).size ≤ 9223372036854775807 then (spec_mvBack.l0 k (backPre s (i + 1) ++ dirBA.extract (opIdx ((s.data.toList[i]).toNat : Int)).toNat (wrap64 (opIdx ((s.data.toList[i]).toNat : Int) + 1)).toNat) ((i : Int) - 1) s n) else none) else none) else none) else none) _
      refine Ev.congr (fun k => by rw [if_pos h1, if_pos h2, if_pos h3, h4, if_pos (by rw [hz]; show s.size - (i + 1) + 1 ≤ _; omega), backPre_step s i hl]) (spec_back_from s n hs hd i (by omega))
theorem spec_mvBack_ev {s : ByteArray} {n : Int} (h : mvOK s n = true) : Ev (fun k => spec_mvBack.f k s n) (bkS s, n) := by
  have h6 := (mvOK_parts h).1
  have := spec_back_from s n (by omega) (mvOK_dirs h) s.size (Nat.le_refl _)
  have e : backPre s s.size = ⟨#[]⟩ := by
    unfold backPre
    rw [List.drop_eq_nil_of_le (by rw [bs_len]; omega)]
    rfl
  rw [e] at this
  unfold spec_mvBack.f
  rw [w64_i (by omega) (by omega)]
  exact this
/-- The way back. -/
def rvV (s : ByteArray) (n : Int) : ByteArray × Int × Bool := if mvOK s n = true then (bkS s, n, true) else (⟨#[]⟩, 0, false)
theorem spec_ReverseMove_ev (s : ByteArray) (n : Int) (hs : s.size ≤ 1048576) : Ev (fun k => spec_ReverseMove.f k s n) (rvV s n) := by
  unfold spec_ReverseMove.f rvV
  refine Ev.bind (spec_mvGood_ev s n (by omega)) ?_
  by_cases h : mvOK s n = true
  · simp only [if_pos h]
    exact Ev.bind (spec_mvBack_ev h) (Ev.now _)
  · simp only [if_neg h]; exact Ev.now _
end Go.Proofs.YtolhmpagpoidjaaGreat.PA
