/- Normal forms of movements: the same steps, not longer, and normal themselves. -/
import Derived.Test.YtolhmpagpoidjaaGreatQMoves
namespace Go.Proofs.YtolhmpagpoidjaaGreat.PA
open Go.RowKit Go.Proofs.YtolhmpagpoidjaaGreatW.PrintWords Go.Proofs.YtolhmpagpoidjaaGreatW.PrintLast Go.Proofs.YtolhmpagpoidjaaGreatW.PrintMore
set_option linter.unusedVariables false
set_option linter.unusedSimpArgs false
theorem bs_len (s : ByteArray) : s.data.toList.length = s.size := Array.length_toList
theorem bt_at (s : ByteArray) (i : Nat) (h : i < s.size) : bt s (i : Int) = ((s.data.toList[i]'(by rw [bs_len]; exact h)).toNat : Int) := by
  unfold bt
  rw [dif_pos (show (i : Int).toNat < s.size from h)]
  rw [Array.getElem_toList]
  rfl
theorem dirs_list (s : ByteArray) : dirsFrom s 0 = s.data.toList.all fun x => decide (0 ≤ dirIdx (x.toNat : Int)) := by
  rw [Bool.eq_iff_iff, List.all_eq_true]
  unfold dirsFrom
  rw [List.all_eq_true]
  constructor
  · intro h x hx
    obtain ⟨i, hi, rfl⟩ := List.getElem_of_mem hx
    have hi' : i < s.size := by rw [← bs_len]; exact hi
    have := h i (List.mem_range'.mpr ⟨i, by omega, by omega⟩)
    rw [bt_at s i hi'] at this
    exact this
  · intro h j hj
    obtain ⟨i, hi, rfl⟩ := List.mem_range'.mp hj
    have hi' : 0 + 1 * i < s.size := by omega
    rw [bt_at s _ hi']
    exact h _ (List.getElem_mem ..)
theorem all_rep {p : UInt8 → Bool} {l : List UInt8} (h : l.all p = true) : ∀ c, (Lib.repeatL l c).all p = true
  | 0 => by simp [Lib.repeatL]
  | c + 1 => by simp only [Lib.repeatL, List.all_append, h, all_rep h c, Bool.and_self]
theorem ext_list (s : ByteArray) (n : Nat) : (s.extract 0 n).data.toList = s.data.toList.take n := by
  simp [ByteArray.data_extract, Array.toList_extract, List.extract_eq_take_drop]
theorem all_take {p : UInt8 → Bool} {l : List UInt8} (h : l.all p = true) (n : Nat) : (l.take n).all p = true := by
  rw [List.all_eq_true] at h ⊢
  exact fun x hx => h x (List.mem_of_mem_take hx)
theorem mvOK_dirs {s : ByteArray} {n : Int} (h : mvOK s n = true) : (s.data.toList.all fun x => decide (0 ≤ dirIdx (x.toNat : Int))) = true := by
  rw [← dirs_list]
  unfold mvOK at h
  simp only [Bool.and_eq_true] at h
  exact h.2.1
theorem mvOK_of {s : ByteArray} {n : Int} (h6 : s.size ≤ 6) (hd : (s.data.toList.all fun x => decide (0 ≤ dirIdx (x.toNat : Int))) = true) (h1 : 1 ≤ n ∧ n ≤ 3) (he : s.toList = [] → n = 1) : mvOK s n = true := by
  unfold mvOK
  rw [dirs_list, hd, decide_eq_true h6, decide_eq_true h1]
  by_cases e : s.toList = []
  · simp [he e]
  · simp [e]
theorem list_nil {s : ByteArray} : s.toList = [] ↔ s.size = 0 := by
  rw [← bs_list, ← List.length_eq_zero_iff, bs_len]
/-- What a normal form is. -/
theorem nm_props {s : ByteArray} {n : Int} (h : mvOK s n = true) :
    (moV (mvSt s n)).2.2 = true ∧ mvOK (moV (mvSt s n)).1 (moV (mvSt s n)).2.1 = true ∧ mvSt (moV (mvSt s n)).1 (moV (mvSt s n)).2.1 = mvSt s n ∧ (moV (mvSt s n)).1.size ≤ s.size := by
  obtain ⟨h6, h1, h3, h0⟩ := mvOK_parts h
  have hd := mvOK_dirs h
  generalize ht : mvSt s n = t
  by_cases he : t.toList = []
  · have e : moV t = (⟨#[]⟩, 1, true) := by unfold moV; rw [if_pos he]
    rw [e]
    refine ⟨rfl, by decide +kernel, ?_, Nat.zero_le _⟩
    refine bs_ext ?_
    rw [← bs_list] at he
    rw [he]
    rfl
  · obtain ⟨r, rfl⟩ : ∃ r : Nat, n = (r : Int) := ⟨n.toNat, by omega⟩
    have hr1 : 1 ≤ r := by omega
    have hr3 : r ≤ 3 := by omega
    have hrep : rep s r = t := by rw [← ht]; rfl
    have hsz : t.size = r * s.size := by rw [← hrep, rep_size]
    have hdt : (t.data.toList.all fun x => decide (0 ≤ dirIdx (x.toNat : Int))) = true := by rw [← hrep, rep_list]; exact all_rep hd r
    have hdiv : t.size / r = s.size := by rw [hsz, Nat.mul_comm]; exact Nat.mul_div_cancel _ (by omega)
    have hpre : t.extract 0 s.size = s := by
      refine bs_ext ?_
      rw [ext_list, ← hrep, rep_list]
      obtain ⟨c, rfl⟩ : ∃ c, r = c + 1 := ⟨r - 1, by omega⟩
      simp only [Lib.repeatL]
      rw [← bs_len, List.take_left]
    have hit : moHit t r = true := (moHit_iff t r).mpr ⟨by rw [hdiv]; exact h6, by unfold PN; rw [hdiv, hpre, hrep]⟩
    obtain ⟨x, hx1, hx3, hxr, hxh, hv⟩ : ∃ x, 1 ≤ x ∧ x ≤ 3 ∧ r ≤ x ∧ moHit t x = true ∧ moV t = (moCut t x, (x : Int), true) := by
      by_cases g3 : moHit t 3 = true
      · exact ⟨3, by omega, by omega, hr3, g3, by unfold moV; rw [if_neg he, if_pos g3]; rfl⟩
      · by_cases g2 : moHit t 2 = true
        · have : r ≠ 3 := fun e => by subst e; exact g3 hit
          exact ⟨2, by omega, by omega, by omega, g2, by unfold moV; rw [if_neg he, if_neg g3, if_pos g2]; rfl⟩
        · have e3 : r ≠ 3 := fun e => by subst e; exact g3 hit
          have e2 : r ≠ 2 := fun e => by subst e; exact g2 hit
          have e1 : r = 1 := by omega
          subst e1
          exact ⟨1, by omega, by omega, by omega, hit, by unfold moV; rw [if_neg he, if_neg g3, if_neg g2, if_pos hit]; rfl⟩
    rw [hv]
    obtain ⟨q1, q2⟩ := (moHit_iff t x).mp hxh
    have hc : (moCut t x).size = t.size / x := by rw [moCut_size]; have := Nat.div_le_self t.size x; omega
    have hst : rep (moCut t x) x = t := bs_toList_inj q2
    refine ⟨rfl, mvOK_of (by simp only []; omega) ?_ ⟨by simp only []; omega, by simp only []; omega⟩ (fun e => ?_), ?_, ?_⟩
    · simp only []
      unfold moCut
      rw [ext_list]
      exact all_take hdt _
    · exfalso
      apply he
      rw [list_nil] at e ⊢
      rw [← hst, rep_size]
      simp only [] at e
      rw [e, Nat.mul_zero]
    · show rep (moCut t x) (x : Int).toNat = t
      exact hst
    · simp only []
      rw [hc, ← hdiv]
      exact Nat.div_le_div_left hxr (by omega)
end Go.Proofs.YtolhmpagpoidjaaGreat.PA
