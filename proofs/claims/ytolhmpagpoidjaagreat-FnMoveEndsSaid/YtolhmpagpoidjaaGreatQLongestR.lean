/- The plain law of desks: what is valid, what edits make, and what all functions of desks return. -/
import Derived.Test.YtolhmpagpoidjaaGreatPAx1
import Derived.Test.YtolhmpagpoidjaaGreatQMoves
namespace Go.Proofs.YtolhmpagpoidjaaGreat.PA
open Go.RowKit Go.Proofs.YtolhmpagpoidjaaGreatW.PrintWords Go.Proofs.YtolhmpagpoidjaaGreatW.PrintLast Go.Proofs.YtolhmpagpoidjaaGreatW.PrintMore
set_option linter.unusedVariables false
set_option linter.unusedSimpArgs false
/-- The letter at a place. -/
def lt (s : ByteArray) (i : Nat) : Int := bt s (i : Int)
/-- From i on there are m equal letters. -/
def Bl (s : ByteArray) (i m : Nat) : Prop := i + m ≤ s.size ∧ ∀ k, k < m → lt s (i + k) = lt s i
theorem Bl.one {s : ByteArray} {i : Nat} (h : i < s.size) : Bl s i 1 := ⟨by omega, fun k hk => by
  obtain rfl : k = 0 := by omega
  rfl⟩
theorem Bl.succ {s : ByteArray} {i m : Nat} (h : Bl s i m) (hl : i + m < s.size) (e : lt s (i + m) = lt s i) : Bl s i (m + 1) := ⟨by omega, fun k hk => by
  by_cases hkm : k = m
  · rw [hkm]; exact e
  · exact h.2 k (by omega)⟩
theorem Bl.init {s : ByteArray} {i m : Nat} (h : Bl s i (m + 1)) : Bl s i m := ⟨by have := h.1; omega, fun k hk => h.2 k (by omega)⟩
theorem Bl.stop {s : ByteArray} {i m r : Nat} (h : Bl s i m) (e : i + r < s.size → lt s (i + r) ≠ lt s i) : m ≤ r := by
  by_cases hm : m ≤ r
  · exact hm
  · exact absurd (h.2 r (by omega)) (e (by have := h.1; omega))
/-- The first longest block. -/
def Fin1 (s : ByteArray) (p m : Nat) : Prop := 1 ≤ m ∧ Bl s p m ∧ ∀ j n, 1 ≤ n → Bl s j n → n ≤ m ∧ (n = m → p ≤ j)
theorem Fin1.same {s : ByteArray} {p m q n : Nat} (h : Fin1 s p m) (h' : Fin1 s q n) : p = q ∧ m = n := by
  have h1 := h.2.2 q n h'.1 h'.2.1
  have h2 := h'.2.2 p m h.1 h.2.1
  have e : m = n := by omega
  refine ⟨?_, e⟩
  have := h1.2 e.symm
  have := h2.2 e
  omega
theorem impl_inner (s : ByteArray) (hs : s.size ≤ 1000) (i best most : Nat) (hi : i < s.size) : ∀ (d run : Nat), s.size - (i + run) = d → 1 ≤ run → Bl s i run →
    ∃ r : Nat, 1 ≤ r ∧ Bl s i r ∧ (∀ m, Bl s i m → m ≤ r) ∧ ∀ v, Ev (fun k => impl_LongestStraight.l0 k s (((if most < r then i else best) : Nat) : Int) (((if most < r then r else most) : Nat) : Int) (s.size : Int) ((i + 1 : Nat) : Int)) v → Ev (fun k => impl_LongestStraight.l1 k s (best : Int) (most : Int) (i : Int) (run : Int) (s.size : Int) (i : Int)) v
  | d, run, hd, h1, hB => by
    have hw : wrap64 ((i : Int) + (run : Int)) = ((i + run : Nat) : Int) := by have := hB.1; rw [w64_i (by omega) (by omega)]; omega
    have hw1 : wrap64 ((i : Int) + 1) = ((i + 1 : Nat) : Int) := w64_succ (by omega)
    have hend : ∀ v, Ev (fun k => impl_LongestStraight.l0 k s (((if most < run then i else best) : Nat) : Int) (((if most < run then run else most) : Nat) : Int) (s.size : Int) ((i + 1 : Nat) : Int)) v → Ev (fun k => if (run : Int) > (most : Int) then impl_LongestStraight.l0 k s (i : Int) (run : Int) (s.size : Int) ((i + 1 : Nat) : Int) else impl_LongestStraight.l0 k s (best : Int) (most : Int) (s.size : Int) ((i + 1 : Nat) : Int)) v := by
      intro v hv
      by_cases hr : most < run
      · simp only [if_pos hr] at hv
        exact Ev.congr (fun k => if_pos (by omega)) hv
      · simp only [if_neg hr] at hv
        exact Ev.congr (fun k => if_neg (by omega)) hv
    by_cases hlt : i + run < s.size
    · by_cases he : lt s (i + run) = lt s i
      · obtain ⟨r, h⟩ := impl_inner s hs i best most hi (d - 1) (run + 1) (by omega) (by omega) (hB.succ hlt he)
        refine ⟨r, h.1, h.2.1, h.2.2.1, fun v hv => Ev.step (fun k => ?_) (h.2.2.2 v hv)⟩
        simp only [impl_LongestStraight.l1, hw]
        rw [if_pos (by omega), if_pos (by omega), if_pos (by omega), if_pos (by omega), if_pos (by omega), if_pos (show bt s ((i + run : Nat) : Int) = bt s (i : Int) from he), w64_succ (by omega)]
      · refine ⟨run, h1, hB, fun m hm => hm.stop (fun _ => he), fun v hv => Ev.step (fun k => ?_) (hend v hv)⟩
        simp only [impl_LongestStraight.l1, hw, hw1]
        rw [if_pos (by omega), if_pos (by omega), if_pos (by omega), if_pos (by omega), if_pos (by omega), if_neg (show ¬ bt s ((i + run : Nat) : Int) = bt s (i : Int) from he)]
    · refine ⟨run, h1, hB, fun m hm => hm.stop (fun h => absurd h hlt), fun v hv => Ev.step (fun k => ?_) (hend v hv)⟩
      simp only [impl_LongestStraight.l1, hw, hw1]
      rw [if_neg (by omega)]
  termination_by d run hd => d
  decreasing_by omega
def InvI (s : ByteArray) (i best most : Nat) : Prop := (i = 0 ∧ most = 0 ∧ best = 0) ∨ (1 ≤ most ∧ Bl s best most ∧ best < i ∧ ∀ j n, j < i → 1 ≤ n → Bl s j n → n ≤ most ∧ (n = most → best ≤ j))
theorem InvI.next {s : ByteArray} {i best most r : Nat} (h : InvI s i best most) (h1 : 1 ≤ r) (hB : Bl s i r) (hm : ∀ m, Bl s i m → m ≤ r) : InvI s (i + 1) (if most < r then i else best) (if most < r then r else most) := by
  right
  rcases h with ⟨rfl, rfl, rfl⟩ | ⟨h2, h3, h4, h5⟩
  · rw [if_pos (by omega), if_pos (by omega)]
    refine ⟨h1, hB, by omega, fun j n hj hn hb => ?_⟩
    obtain rfl : j = 0 := by omega
    exact ⟨hm n hb, fun _ => Nat.le_refl _⟩
  · by_cases hr : most < r
    · rw [if_pos hr, if_pos hr]
      refine ⟨h1, hB, by omega, fun j n hj hn hb => ?_⟩
      by_cases hji : j = i
      · subst hji; exact ⟨hm n hb, fun _ => Nat.le_refl _⟩
      · have := (h5 j n (by omega) hn hb).1
        exact ⟨by omega, fun e => by omega⟩
    · rw [if_neg hr, if_neg hr]
      refine ⟨h2, h3, by omega, fun j n hj hn hb => ?_⟩
      by_cases hji : j = i
      · subst hji
        have := hm n hb
        exact ⟨by omega, fun _ => by omega⟩
      · exact h5 j n (by omega) hn hb
theorem impl_outer (s : ByteArray) (hs : s.size ≤ 1000) (h0 : 1 ≤ s.size) : ∀ (d i best most : Nat), s.size - i = d → i ≤ s.size → InvI s i best most →
    ∃ p m, Fin1 s p m ∧ Ev (fun k => impl_LongestStraight.l0 k s (best : Int) (most : Int) (s.size : Int) (i : Int)) (s.extract p (p + 1), (m : Int), true)
  | 0, i, best, most, hd, hi, hI => by
    rcases hI with ⟨rfl, _, _⟩ | ⟨h2, h3, h4, h5⟩
    · omega
    · refine ⟨best, most, ⟨h2, h3, fun j n hn hb => h5 j n (by have := hb.1; omega) hn hb⟩, ?_⟩
      have hw : wrap64 ((best : Int) + 1) = ((best + 1 : Nat) : Int) := w64_succ (by omega)
      refine Ev.step (f := fun _ => some (s.extract best (best + 1), (most : Int), true)) (fun k => ?_) (Ev.now _)
      simp only [impl_LongestStraight.l0, hw]
      rw [if_neg (by omega), if_pos (by omega), if_pos (by omega), if_pos (by omega)]
      rfl
  | d + 1, i, best, most, hd, hi, hI => by
    have hlt : i < s.size := by omega
    obtain ⟨r, h1, hB, hm, hv⟩ := impl_inner s hs i best most hlt _ 1 rfl (Nat.le_refl _) (Bl.one hlt)
    obtain ⟨p, m, hF, hE⟩ := impl_outer s hs h0 d (i + 1) _ _ (by omega) (by omega) (hI.next h1 hB hm)
    refine ⟨p, m, hF, Ev.step (fun k => ?_) (hv _ hE)⟩
    simp only [impl_LongestStraight.l0]
    rw [if_pos (by omega)]
    rfl
def InvS (s : ByteArray) (i : Nat) (b : ByteArray) (most row : Nat) : Prop := (i = 0 ∧ most = 0 ∧ row = 0) ∨
  (1 ≤ i ∧ 1 ≤ row ∧ row ≤ i ∧ row ≤ most ∧ Bl s (i - row) row ∧ (∀ m, m ≤ i → Bl s (i - m) m → m ≤ row) ∧ ∃ p, 1 ≤ most ∧ b = s.extract p (p + 1) ∧ Bl s p most ∧ p + most ≤ i ∧ ∀ j n, 1 ≤ n → Bl s j n → j + n ≤ i → n ≤ most ∧ (n = most → p ≤ j))
/-- A letter more: the row that it ends. -/
def rowOf (s : ByteArray) (i row : Nat) : Nat := if 0 < i ∧ lt s i ≠ lt s (i - 1) then 1 else row + 1
theorem bt_list (s : ByteArray) (i : Nat) (h : i < s.size) : bt s (i : Int) = ((s.data.toList[i]'(by rw [Array.length_toList]; exact h)).toNat : Int) := by
  unfold bt
  rw [dif_pos (show ((i : Int)).toNat < s.size by omega)]
  simp [ByteArray.getElem_eq_getElem_data]
theorem ext_letter {s : ByteArray} {p q : Nat} (hp : p < s.size) (hq : q < s.size) (h : lt s p = lt s q) : s.extract p (p + 1) = s.extract q (q + 1) := by
  apply bs_ext
  have e : ∀ j, j < s.size → (s.extract j (j + 1)).data.toList = [s.data.toList[j]?.getD 0] := by
    intro j hj
    have hj2 : j < s.data.toList.length := by rw [Array.length_toList]; exact hj
    rw [ByteArray.data_extract, Array.toList_extract, List.getElem?_eq_getElem hj2]
    rw [List.extract_eq_take_drop, List.drop_eq_getElem_cons hj2]
    simp
  rw [e p hp, e q hq]
  have hp2 : p < s.data.toList.length := by rw [Array.length_toList]; exact hp
  have hq2 : q < s.data.toList.length := by rw [Array.length_toList]; exact hq
  unfold lt at h
  have b : ∀ j, j < s.size → bt s (j : Int) = ((s.data.toList[j]?.getD 0).toNat : Int) := by
    intro j hj
    have hj2 : j < s.data.toList.length := by rw [Array.length_toList]; exact hj
    rw [List.getElem?_eq_getElem hj2, bt_list s j hj]
    rfl
  rw [b p hp, b q hq] at h
  have h2 : (s.data.toList[p]?.getD 0).toNat = (s.data.toList[q]?.getD 0).toNat := by omega
  rw [UInt8.toNat_inj.mp h2]
theorem InvS.next {s : ByteArray} {i : Nat} {b : ByteArray} {most row : Nat} (hi : i < s.size) (h : InvS s i b most row) : InvS s (i + 1) (if most < rowOf s i row then s.extract i (i + 1) else b) (if most < rowOf s i row then rowOf s i row else most) (rowOf s i row) := by
  right
  -- the row that ends at i
  have hrow : 1 ≤ rowOf s i row ∧ rowOf s i row ≤ i + 1 ∧ Bl s (i + 1 - rowOf s i row) (rowOf s i row) ∧ ∀ m, m ≤ i + 1 → Bl s (i + 1 - m) m → m ≤ rowOf s i row := by
    unfold rowOf
    by_cases hc : 0 < i ∧ lt s i ≠ lt s (i - 1)
    · rw [if_pos hc]
      refine ⟨Nat.le_refl _, by omega, by rw [Nat.add_sub_cancel]; exact Bl.one hi, fun m hm hb => ?_⟩
      by_cases h1 : m ≤ 1
      · exact h1
      · have e1 := hb.2 (m - 1) (by omega)
        have e2 := hb.2 (m - 2) (by omega)
        rw [show i + 1 - m + (m - 1) = i by omega] at e1
        rw [show i + 1 - m + (m - 2) = i - 1 by omega] at e2
        exact absurd (e1.trans e2.symm) hc.2
    · rw [if_neg hc]
      rcases h with ⟨rfl, rfl, rfl⟩ | ⟨h1, h2, h3, h4, h5, h6, _⟩
      · exact ⟨by omega, by omega, Bl.one hi, fun m hm _ => by omega⟩
      · have he : lt s i = lt s (i - 1) := by
          by_cases he : lt s i = lt s (i - 1)
          · exact he
          · exact absurd ⟨by omega, he⟩ hc
        have e1 := h5.2 (row - 1) (by omega)
        rw [show i - row + (row - 1) = i - 1 by omega] at e1
        refine ⟨by omega, by omega, ?_, fun m hm hb => ?_⟩
        · rw [show i + 1 - (row + 1) = i - row by omega]
          refine h5.succ (by omega) ?_
          rw [show i - row + row = i by omega]
          exact he.trans e1
        · cases m with
          | zero => omega
          | succ m =>
            have := h6 m (by omega) (by rw [show i + 1 - (m + 1) = i - m by omega] at hb; exact hb.init)
            omega
  generalize rowOf s i row = r at hrow ⊢
  obtain ⟨r1, r2, r3, r4⟩ := hrow
  by_cases hr : most < r
  · rw [if_pos hr, if_pos hr]
    refine ⟨by omega, r1, r2, Nat.le_refl _, r3, r4, i + 1 - r, r1, ?_, r3, by omega, fun j n hn hb hj => ?_⟩
    · refine ext_letter hi (by omega) ?_
      have := r3.2 (r - 1) (by omega)
      rw [show i + 1 - r + (r - 1) = i by omega] at this
      exact this
    · by_cases hjn : j + n = i + 1
      · have := r4 n (by omega) (by rw [show i + 1 - n = j by omega]; exact hb)
        exact ⟨this, fun e => by omega⟩
      · rcases h with ⟨rfl, rfl, rfl⟩ | ⟨_, _, _, _, _, _, p, _, _, _, _, h7⟩
        · omega
        · have := (h7 j n hn hb (by omega)).1
          exact ⟨by omega, fun e => by omega⟩
  · rw [if_neg hr, if_neg hr]
    rcases h with ⟨rfl, rfl, rfl⟩ | ⟨_, _, _, _, _, _, p, q1, q2, q3, q4, h7⟩
    · omega
    · refine ⟨by omega, r1, r2, by omega, r3, r4, p, q1, q2, q3, by omega, fun j n hn hb hj => ?_⟩
      by_cases hjn : j + n = i + 1
      · have := r4 n (by omega) (by rw [show i + 1 - n = j by omega]; exact hb)
        exact ⟨by omega, fun e => by omega⟩
      · exact h7 j n hn hb (by omega)
theorem spec_outer (s : ByteArray) (hs : s.size ≤ 1000) (h0 : 1 ≤ s.size) : ∀ (d i : Nat) (b : ByteArray) (most row : Nat), s.size - i = d → i ≤ s.size → row ≤ i → InvS s i b most row →
    ∃ p m, Fin1 s p m ∧ Ev (fun k => spec_LongestStraight.l0 k s b (most : Int) (row : Int) (i : Int)) (s.extract p (p + 1), (m : Int), true)
  | 0, i, b, most, row, hd, hi, hri, hI => by
    rcases hI with ⟨rfl, _, _⟩ | ⟨_, _, _, _, _, _, p, q1, q2, q3, q4, h7⟩
    · omega
    · refine ⟨p, most, ⟨q1, q3, fun j n hn hb => h7 j n hn hb (by have := hb.1; omega)⟩, ?_⟩
      subst q2
      refine Ev.step (f := fun _ => some (s.extract p (p + 1), (most : Int), true)) (fun k => ?_) (Ev.now _)
      simp only [spec_LongestStraight.l0]
      rw [if_neg (by omega)]
  | d + 1, i, b, most, row, hd, hi, hri, hI => by
    have hlt : i < s.size := by omega
    have hr1 : rowOf s i row ≤ i + 1 := by unfold rowOf; split <;> omega
    obtain ⟨p, m, hF, hE⟩ := spec_outer s hs h0 d (i + 1) _ _ _ (by omega) (by omega) hr1 (hI.next hlt)
    refine ⟨p, m, hF, ?_⟩
    have hw1 : wrap64 ((i : Int) + 1) = ((i + 1 : Nat) : Int) := w64_succ (by omega)
    have hw2 : wrap64 ((row : Int) + 1) = ((row + 1 : Nat) : Int) := w64_succ (by omega)
    -- the letter differs from the one before
    have hstep : Ev (fun k => spec_LongestStraight.j2 k s b (most : Int) ((row + 1 : Nat) : Int) (i : Int) (decide (0 < i ∧ lt s i ≠ lt s (i - 1)))) (s.extract p (p + 1), (m : Int), true) := by
      by_cases hc : 0 < i ∧ lt s i ≠ lt s (i - 1)
      · have hro : rowOf s i row = 1 := by unfold rowOf; rw [if_pos hc]
        rw [hro] at hE
        rw [decide_eq_true hc]
        by_cases hm : most < 1
        · simp only [if_pos hm] at hE
          refine Ev.step (fun k => ?_) hE
          simp only [spec_LongestStraight.j2, hw1, if_true]
          rw [if_pos (by omega), if_pos (by omega), if_pos (by omega), if_pos (by omega)]
          rfl
        · simp only [if_neg hm] at hE
          refine Ev.step (fun k => ?_) hE
          simp only [spec_LongestStraight.j2, hw1, if_true]
          rw [if_neg (by omega)]
          rfl
      · have hro : rowOf s i row = row + 1 := by unfold rowOf; rw [if_neg hc]
        rw [hro] at hE
        rw [decide_eq_false hc]
        by_cases hm : most < row + 1
        · simp only [if_pos hm] at hE
          refine Ev.step (fun k => ?_) hE
          simp only [spec_LongestStraight.j2, hw1, Bool.false_eq_true, if_false]
          rw [if_pos (by omega), if_pos (by omega), if_pos (by omega), if_pos (by omega)]
          rfl
        · simp only [if_neg hm] at hE
          refine Ev.step (fun k => ?_) hE
          simp only [spec_LongestStraight.j2, hw1, Bool.false_eq_true, if_false]
          rw [if_neg (by omega)]
    refine Ev.step (fun k => ?_) hstep
    simp only [spec_LongestStraight.l0, hw2]
    rw [if_pos (by omega)]
    by_cases h0 : 0 < i
    · have hwm : wrap64 ((i : Int) - 1) = ((i - 1 : Nat) : Int) := by rw [w64_i (by omega) (by omega)]; omega
      rw [if_pos (by omega), if_pos (by omega), if_pos (by omega), hwm, if_pos (by omega), if_pos (by omega)]
      congr 1
      by_cases he : lt s i = lt s (i - 1)
      · rw [decide_eq_false (fun h => h.2 he)]
        show (bt s (i : Int) != bt s ((i - 1 : Nat) : Int)) = false
        exact bne_eq_false_iff_eq.mpr he
      · rw [decide_eq_true ⟨h0, he⟩]
        show (bt s (i : Int) != bt s ((i - 1 : Nat) : Int)) = true
        exact bne_iff_ne.mpr he
    · rw [if_neg (by omega), decide_eq_false (fun h => h0 h.1)]
theorem longest_same (s : ByteArray) (n : Int) (hs : s.size ≤ 1048576) : ∃ v, Ev (fun k => spec_LongestStraight.f k s n) v ∧ Ev (fun k => impl_LongestStraight.f k s n) v ∧ (v.2.2 = true → 1 ≤ v.2.1 ∧ v.2.1 ≤ 18 ∧ v.1.size = 1) := by
  by_cases hg : mvOK s n = true
  · by_cases he : (s.toList == ([] : List UInt8)) = true
    · refine ⟨(⟨#[]⟩, 0, false), ?_, ?_, fun h => (by cases h)⟩
      · unfold spec_LongestStraight.f
        refine Ev.bind (spec_mvGood_ev s n (by omega)) ?_
        simp only [hg, if_true, he]
        refine Ev.shift ?_
        simp only [spec_LongestStraight.j0, if_true]
        exact Ev.now _
      · unfold impl_LongestStraight.f
        refine Ev.bind (impl_IsMove_ev s n (by omega)) ?_
        simp only [hg, if_true, he]
        refine Ev.shift ?_
        simp only [impl_LongestStraight.j0, if_true]
        exact Ev.now _
    · have hz := mvSt_size hg
      have hne : 1 ≤ (mvSt s n).size := by
        have h1 : s.size ≠ 0 := by
          intro h0
          apply he
          have : s.toList = [] := by
            apply List.eq_nil_of_length_eq_zero
            rw [← bs_list, Array.length_toList]
            exact h0
          rw [this]; rfl
        have h2 := (mvOK_parts hg).2.1
        unfold mvSt
        rw [rep_size]
        exact Nat.le_trans (by omega) (Nat.mul_le_mul (show 1 ≤ n.toNat by omega) (show 1 ≤ s.size by omega))
      have he2 : (s.toList == ([] : List UInt8)) = false := Bool.eq_false_iff.mpr he
      obtain ⟨p, m, hF, hE⟩ := spec_outer (mvSt s n) (by omega) hne _ 0 ⟨#[]⟩ 0 0 rfl (Nat.zero_le _) (Nat.le_refl _) (.inl ⟨rfl, rfl, rfl⟩)
      obtain ⟨q, m', hF', hE'⟩ := impl_outer (mvSt s n) (by omega) hne _ 0 0 0 rfl (Nat.zero_le _) (.inl ⟨rfl, rfl, rfl⟩)
      obtain ⟨rfl, rfl⟩ := hF.same hF'
      have hb1 := hF.1
      have hb2 := hF.2.1.1
      refine ⟨((mvSt s n).extract p (p + 1), (m : Int), true), ?_, ?_, fun _ => ⟨by simp only []; omega, by simp only []; omega, by simp only [ByteArray.size_extract]; omega⟩⟩
      · unfold spec_LongestStraight.f
        refine Ev.bind (spec_mvGood_ev s n (by omega)) ?_
        simp only [hg, if_true, he2]
        refine Ev.shift ?_
        simp only [spec_LongestStraight.j0, Bool.false_eq_true, if_false]
        exact Ev.bind (spec_mvAll_ev hg) hE
      · unfold impl_LongestStraight.f
        refine Ev.bind (impl_IsMove_ev s n (by omega)) ?_
        simp only [hg, if_true, he2]
        refine Ev.shift ?_
        simp only [impl_LongestStraight.j0, Bool.false_eq_true, if_false, impl_all hg, Option.bind_some]
        exact hE'
  · have hg2 : mvOK s n = false := Bool.eq_false_iff.mpr hg
    refine ⟨(⟨#[]⟩, 0, false), ?_, ?_, fun h => (by cases h)⟩
    · unfold spec_LongestStraight.f
      refine Ev.bind (spec_mvGood_ev s n (by omega)) ?_
      simp only [hg2, Bool.false_eq_true, if_false]
      refine Ev.shift ?_
      simp only [spec_LongestStraight.j0, if_true]
      exact Ev.now _
    · unfold impl_LongestStraight.f
      refine Ev.bind (impl_IsMove_ev s n (by omega)) ?_
      simp only [hg2, Bool.false_eq_true, if_false]
      refine Ev.shift ?_
      simp only [impl_LongestStraight.j0, if_true]
      exact Ev.now _
end Go.Proofs.YtolhmpagpoidjaaGreat.PA
