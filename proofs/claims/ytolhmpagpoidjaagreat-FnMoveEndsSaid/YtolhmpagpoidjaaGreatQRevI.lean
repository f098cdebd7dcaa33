/- The way back of a movement, by the program. -/
import Derived.Test.YtolhmpagpoidjaaGreatPAx1
import Derived.Test.YtolhmpagpoidjaaGreatQBackR
namespace Go.Proofs.YtolhmpagpoidjaaGreat.PA
open Go.RowKit Go.Proofs.YtolhmpagpoidjaaGreatW.PrintWords Go.Proofs.YtolhmpagpoidjaaGreatW.PrintLast Go.Proofs.YtolhmpagpoidjaaGreatW.PrintMore
set_option linter.unusedVariables false
set_option linter.unusedSimpArgs false
theorem rdI (x : List Int) (i : Nat) (h : i < x.length) : rd x (i : Int) = x[i] := by
  have := Bf.rd_at (xs := x) (i := (i : Int)) (by omega) (by omega)
  rw [this]
  congr 1
theorem revb_from (l : List Int) (hl : l.length ≤ 1048576) : ∀ (d i : Nat) (x : List Int), l.length - i = d → i ≤ l.length → x.length = l.length → (∀ j, j < l.length → x[j]? = if j < i ∨ l.length < j + 1 + i then l[l.length - 1 - j]? else l[j]?) →
    Ev (fun k => slices_Reverse_byte_byte.l0 k x (i : Int) ((l.length : Int) - 1 - (i : Int))) l.reverse := by
  intro d
  induction d with
  | zero =>
    intro i x hd hi hx h
    refine ⟨1, fun k hk => ?_⟩
    obtain ⟨k, rfl⟩ : ∃ m, k = m + 1 := ⟨k - 1, by omega⟩
    simp only [slices_Reverse_byte_byte.l0]
    rw [if_neg (by omega)]
    congr 1
    apply List.ext_getElem?
    intro j
    by_cases hj : j < l.length
    · rw [h j hj, if_pos (by omega), List.getElem?_reverse hj]
    · rw [List.getElem?_eq_none (by omega), List.getElem?_eq_none (by simp; omega)]
  | succ d ih =>
    intro i x hd hi hx h
    by_cases hc : (i : Int) < (l.length : Int) - 1 - (i : Int)
    · have hj : (l.length : Int) - 1 - (i : Int) = ((l.length - 1 - i : Nat) : Int) := by omega
      have hir : i < x.length := by omega
      have hjr : l.length - 1 - i < x.length := by omega
      refine Ev.step (f := fun k => slices_Reverse_byte_byte.l0 k ((x.set i x[l.length - 1 - i]).set (l.length - 1 - i) x[i]) ((i + 1 : Nat) : Int) ((l.length : Int) - 1 - ((i + 1 : Nat) : Int))) (fun k => ?_) ?_
      · simp only [slices_Reverse_byte_byte.l0]
        rw [if_pos hc, hj, if_pos (by omega), if_pos (by omega), if_pos (by omega), if_pos (by omega), if_pos (by omega), if_pos (by omega), if_pos (by omega), if_pos (by omega), rdI x i hir, rdI x _ hjr, w64_i (by omega) (by omega), w64_i (by omega) (by omega), Int.toNat_natCast, Int.toNat_natCast, show ((l.length - 1 - i : Nat) : Int) - 1 = (l.length : Int) - 1 - ((i + 1 : Nat) : Int) by omega]
        rfl
      · refine ih (i + 1) _ (by omega) (by omega) (by simp [hx]) (fun j hj' => ?_)
        have hi' := h i (by omega)
        have hj2 := h (l.length - 1 - i) (by omega)
        rw [if_neg (by omega), List.getElem?_eq_getElem hir] at hi'
        rw [if_neg (by omega), List.getElem?_eq_getElem hjr] at hj2
        by_cases e1 : j = l.length - 1 - i
        · subst e1
          rw [List.getElem?_set_self (by simp; omega), if_pos (by omega), hi', show l.length - 1 - (l.length - 1 - i) = i by omega]
        · rw [List.getElem?_set_ne (by omega)]
          by_cases e2 : j = i
          · subst e2
            rw [List.getElem?_set_self (by omega), if_pos (by omega), hj2]
          · rw [List.getElem?_set_ne (by omega), h j hj']
            by_cases e3 : j < i ∨ l.length < j + 1 + i
            · rw [if_pos e3, if_pos (by omega)]
            · rw [if_neg e3, if_neg (by omega)]
    · refine ⟨1, fun k hk => ?_⟩
      obtain ⟨k, rfl⟩ : ∃ m, k = m + 1 := ⟨k - 1, by omega⟩
      simp only [slices_Reverse_byte_byte.l0]
      rw [if_neg hc]
      congr 1
      apply List.ext_getElem?
      intro j
      by_cases hj : j < l.length
      · rw [h j hj, List.getElem?_reverse hj]
        by_cases e3 : j < i ∨ l.length < j + 1 + i
        · rw [if_pos e3]
        · rw [if_neg e3, show l.length - 1 - j = j by omega]
      · rw [List.getElem?_eq_none (by omega), List.getElem?_eq_none (by simp; omega)]
theorem revb_ev (l : List Int) (hl : l.length ≤ 1048576) : Ev (fun k => slices_Reverse_byte_byte.f k l) l.reverse := by
  unfold slices_Reverse_byte_byte.f
  have h := revb_from l hl _ 0 l rfl (Nat.zero_le _) rfl (fun j hj => by rw [if_neg (by omega)])
  rw [show (l.length : Int) - 1 - ((0 : Nat) : Int) = (l.length : Int) - 1 by omega] at h
  exact Ev.congr (fun k => by rw [w64_i (by omega) (by omega)]; rfl) h
theorem op_bits {x : UInt8} (h : 0 ≤ dirIdx (x.toNat : Int)) : 0 ≤ Go.bits .xor .i64 (Lib.indexByte dirsB.data.toList ((x.toNat : Int)).toNat.toUInt8) 1 ∧ Go.bits .xor .i64 (Lib.indexByte dirsB.data.toList ((x.toNat : Int)).toNat.toUInt8) 1 < 6 ∧ bt dirsB (Go.bits .xor .i64 (Lib.indexByte dirsB.data.toList ((x.toNat : Int)).toNat.toUInt8) 1) = ((flL x).toNat : Int) := by
  rcases dir_cases h with rfl | rfl | rfl | rfl | rfl | rfl <;> decide +kernel
def tnI (b : UInt8) : Int := (b.toNat : Int)
/-- The letters before i are turned. -/
def mixL (L : List UInt8) (i : Nat) : List Int := ((L.take i).map flL ++ L.drop i).map tnI
theorem mixL_len (L : List UInt8) (i : Nat) (h : i ≤ L.length) : (mixL L i).length = L.length := by
  simp [mixL]; omega
theorem mixL_at (L : List UInt8) (i : Nat) (h : i < L.length) : rd (mixL L i) (i : Int) = (L[i].toNat : Int) := by
  rw [rdI _ _ (by rw [mixL_len L i (by omega)]; exact h)]
  simp only [mixL, List.getElem_map]
  rw [List.getElem_append_right (by simp <;> omega)]
  have e : i - ((L.take i).map flL).length = 0 := by simp; omega
  simp only [e, List.getElem_drop, Nat.add_zero]
  rfl
theorem mixL_set (L : List UInt8) (i : Nat) (h : i < L.length) : (mixL L i).set i (tnI (flL L[i])) = mixL L (i + 1) := by
  unfold mixL
  rw [← List.map_set]
  congr 1
  have e : ((L.take i).map flL).length = i := by simp; omega
  rw [List.set_append, if_neg (by omega), e, Nat.sub_self, List.drop_eq_getElem_cons h, List.set_cons_zero, List.take_succ_eq_append_getElem h, List.map_append, List.append_assoc]
  rfl
theorem turn_from (L : List UInt8) (hL : L.length ≤ 1048576) (hd : ∀ x ∈ L, 0 ≤ dirIdx (x.toNat : Int)) : ∀ (d i : Nat), L.length - i = d → i ≤ L.length → Ev (fun k => impl_ReverseMove.l0 k (mixL L i) (i : Int)) (mixL L L.length) := by
  intro d
  induction d with
  | zero =>
    intro i hd' hi
    obtain rfl : i = L.length := by omega
    refine Ev.step (f := fun _ => some (mixL L L.length)) (fun k => ?_) (Ev.now _)
    simp only [impl_ReverseMove.l0]
    rw [if_neg (by rw [mixL_len L _ (Nat.le_refl _)]; omega)]
  | succ d ih =>
    intro i hd' hi
    have hlt : i < L.length := by omega
    obtain ⟨h1, h2, h3⟩ := op_bits (hd _ (List.getElem_mem hlt))
    refine Ev.step (f := fun k => impl_ReverseMove.l0 k (mixL L (i + 1)) ((i + 1 : Nat) : Int)) (fun k => ?_) (ih (i + 1) (by omega) (by omega))
    simp only [impl_ReverseMove.l0]
    rw [if_pos (by rw [mixL_len L i hi]; omega), if_pos (by omega), mixL_at L i hlt, if_pos h1, if_pos h2, h3, Int.toNat_natCast, w64_i (by omega) (by omega)]
    have := mixL_set L i hlt
    unfold tnI at this
    rw [this]
    rfl
theorem bytesOf_rev (s : ByteArray) : (bytesOf s).reverse = mixL s.data.toList.reverse 0 := by
  simp [bytesOf, mixL, List.map_reverse, tnI]
theorem str_tn (l : List UInt8) : strOfNums (l.map tnI) = ⟨l.toArray⟩ := by
  refine bs_ext ?_
  rw [strOfNums_data, List.map_map]
  refine (List.map_congr_left fun x _ => ?_).trans (List.map_id _)
  simp [tnI]
theorem impl_ReverseMove_ev (s : ByteArray) (n : Int) (hs : s.size ≤ 1048576) : Ev (fun k => impl_ReverseMove.f k s n) (rvV s n) := by
  unfold impl_ReverseMove.f rvV
  refine Ev.bind (impl_IsMove_ev s n (by omega)) ?_
  by_cases h : mvOK s n = true
  · simp only [if_pos h]
    have hz : (bytesOf s).length = s.size := by rw [bytesOf, List.length_map]; exact Array.length_toList
    refine Ev.bind (revb_ev (bytesOf s) (by omega)) ?_
    rw [bytesOf_rev]
    have hd : ∀ x ∈ s.data.toList.reverse, 0 ≤ dirIdx (x.toNat : Int) := fun x hx => of_decide_eq_true (List.all_eq_true.mp (mvOK_dirs h) _ (List.mem_reverse.mp hx))
    have hl : s.data.toList.reverse.length ≤ 1048576 := by rw [List.length_reverse, Array.length_toList]; exact hs
    refine Ev.bind (turn_from _ hl hd _ 0 rfl (Nat.zero_le _)) ?_
    have e : strOfNums (mixL s.data.toList.reverse s.data.toList.reverse.length) = bkS s := by
      unfold mixL
      rw [List.take_length, List.drop_length, List.append_nil, str_tn]
      unfold bkS backPre
      rw [List.drop_zero]
    rw [e]
    exact Ev.now _
  · simp only [if_neg h]; exact Ev.now _
end Go.Proofs.YtolhmpagpoidjaaGreat.PA
