/- The plain law of movements: what is a movement, and all its steps, are the same for the program and the reference. -/
import Derived.Test.YtadddkdfbmbagaaPAx1
import Derived.Test.YtadddkdfbmbagaaBase
namespace Go.Proofs.Ytadddkdfbmbagaa.PA
open Go.RowKit Go.Proofs.YtadddkdfbmbagaaW.PrintWords Go.Proofs.YtadddkdfbmbagaaW.PrintLast Go.Proofs.YtadddkdfbmbagaaW.PrintMore
set_option linter.unusedVariables false
set_option linter.unusedSimpArgs false

theorem w64_i {x : Int} (h0 : -9223372036854775808 ≤ x) (h1 : x ≤ 9223372036854775807) : wrap64 x = x := by
  unfold wrap64; omega
theorem w64_succ {i : Nat} (h : i < 9223372036854775807) : wrap64 ((i : Int) + 1) = ((i + 1 : Nat) : Int) := by
  rw [w64_i (by omega) (by omega)]; omega

/-- The letters of the directions. -/
def dirL : List UInt8 := [117, 100, 108, 114, 102, 98]
def dirIdx (x : Int) : Int := Lib.indexByte dirL x.toNat.toUInt8
theorem spec_idx : ∀ x : Fin 256, spec_mvIndex.f 8 (x.val : Int) = some (dirIdx (x.val : Int)) := by
  decide +kernel
theorem spec_mvIndex_ev (s : ByteArray) (i : Int) : Ev (fun k => spec_mvIndex.f k (bt s i)) (dirIdx (bt s i)) := by
  have h := bt_range s i
  have := spec_idx ⟨(bt s i).toNat, by omega⟩
  simp only [] at this
  rw [show (((bt s i).toNat : Nat) : Int) = bt s i by omega] at this
  exact Ev.of (fun k => spec_mvIndex.mono _ k) this
/-- Are all letters from i on directions? -/
def dirsFrom (s : ByteArray) (i : Nat) : Bool := (List.range' i (s.size - i)).all fun j => decide (0 ≤ dirIdx (bt s (j : Int)))
theorem dirsFrom_end (s : ByteArray) (i : Nat) (h : s.size ≤ i) : dirsFrom s i = true := by
  unfold dirsFrom; rw [show s.size - i = 0 by omega]; rfl
theorem dirsFrom_step (s : ByteArray) (i : Nat) (h : i < s.size) : dirsFrom s i = (decide (0 ≤ dirIdx (bt s (i : Int))) && dirsFrom s (i + 1)) := by
  unfold dirsFrom
  rw [show s.size - i = (s.size - (i + 1)) + 1 by omega, List.range'_succ, List.all_cons]
theorem spec_steps_from (s : ByteArray) (hs : s.size < 9223372036854775807) : ∀ (d i : Nat), s.size - i = d → i ≤ s.size → Ev (fun k => spec_mvSteps.l0 k s (i : Int)) (dirsFrom s i) := by
  intro d
  induction d with
  | zero =>
    intro i hd hi
    refine ⟨1, fun k hk => ?_⟩
    obtain ⟨k, rfl⟩ : ∃ m, k = m + 1 := ⟨k - 1, by omega⟩
    simp only [spec_mvSteps.l0]
    rw [if_neg (by omega), dirsFrom_end s i (by omega)]
  | succ d ih =>
    intro i hd hi
    have hlt : i < s.size := by omega
    refine Ev.step (f := fun k => (spec_mvIndex.f k (bt s (i : Int))).bind fun t => if t < 0 then some false else spec_mvSteps.l0 k s ((i + 1 : Nat) : Int)) (fun k => ?_) ?_
    · simp only [spec_mvSteps.l0]
      rw [if_pos (by omega), if_pos (by omega), w64_succ (by omega)]
    · refine Ev.bind (spec_mvIndex_ev s i) ?_
      rw [dirsFrom_step s i hlt]
      by_cases h : 0 ≤ dirIdx (bt s (i : Int))
      · rw [decide_eq_true h, Bool.true_and]
        exact Ev.congr (fun k => by rw [if_neg (by omega)]) (ih (i + 1) (by omega) (by omega))
      · rw [decide_eq_false h, Bool.false_and]
        exact Ev.congr (f := fun _ => some false) (fun k => by rw [if_pos (by omega)]) (Ev.now _)
theorem impl_steps_from (s : ByteArray) (hs : s.size < 9223372036854775807) : ∀ (d i : Nat), s.size - i = d → i ≤ s.size → Ev (fun k => impl_hasOnly.l0 k s ⟨#[117, 100, 108, 114, 102, 98]⟩ (s.size : Int) (i : Int)) (dirsFrom s i) := by
  intro d
  induction d with
  | zero =>
    intro i hd hi
    refine ⟨1, fun k hk => ?_⟩
    obtain ⟨k, rfl⟩ : ∃ m, k = m + 1 := ⟨k - 1, by omega⟩
    simp only [impl_hasOnly.l0]
    rw [if_neg (by omega), dirsFrom_end s i (by omega)]
  | succ d ih =>
    intro i hd hi
    have hlt : i < s.size := by omega
    refine Ev.step (f := fun k => if dirIdx (bt s (i : Int)) < 0 then some false else impl_hasOnly.l0 k s ⟨#[117, 100, 108, 114, 102, 98]⟩ (s.size : Int) ((i + 1 : Nat) : Int)) (fun k => ?_) ?_
    · simp only [impl_hasOnly.l0]
      rw [if_pos (by omega), if_pos (by omega), if_pos (by omega), w64_succ (by omega)]
      rfl
    · rw [dirsFrom_step s i hlt]
      by_cases h : 0 ≤ dirIdx (bt s (i : Int))
      · rw [decide_eq_true h, Bool.true_and]
        exact Ev.congr (fun k => by rw [if_neg (by omega)]) (ih (i + 1) (by omega) (by omega))
      · rw [decide_eq_false h, Bool.false_and]
        exact Ev.congr (f := fun _ => some false) (fun k => by rw [if_pos (by omega)]) (Ev.now _)
/-- A valid movement. -/
def mvOK (s : ByteArray) (n : Int) : Bool := decide (s.size ≤ 6) && (dirsFrom s 0 && (decide (1 ≤ n ∧ n ≤ 3) && (decide (¬ s.toList = []) || n == 1)))
theorem mvOK_ends {g : Nat → Option Bool} {s : ByteArray} {n : Int} (h : Ev g (dirsFrom s 0)) (w : Int → Int → Int → Option Bool) (hw : ∀ x, w x 1 3 = some (decide (1 ≤ x ∧ x ≤ 3))) :
    Ev (fun k => if (s.size : Int) ≤ 6 then ((g k).bind fun t178 => (if t178 = true then ((w n 1 3).bind fun t179 => (if t179 = true then (if s.toList = ([] : List UInt8) then (some (n == 1)) else (some true)) else (some false))) else (some false))) else (some false)) (mvOK s n) := by
  unfold mvOK
  by_cases h6 : s.size ≤ 6
  · rw [decide_eq_true h6, Bool.true_and]
    refine Ev.congr (fun k => if_pos (by omega)) (Ev.bind h ?_)
    cases dirsFrom s 0
    · exact Ev.now _
    · rw [hw]
      by_cases h13 : 1 ≤ n ∧ n ≤ 3
      · rw [decide_eq_true h13]
        by_cases he : s.toList = []
        · simp only [he, if_true, Option.bind_some, Bool.true_and, not_true_eq_false, decide_false, Bool.false_or]; exact Ev.now _
        · simp only [he, if_true, if_false, Option.bind_some, Bool.true_and, not_false_eq_true, decide_true, Bool.true_or]; exact Ev.now _
      · rw [decide_eq_false h13]
        exact Ev.now _
  · rw [decide_eq_false h6, Bool.false_and]
    exact Ev.congr (f := fun _ => some false) (fun k => if_neg (by omega)) (Ev.now _)
theorem l1In13 (x : Int) : spec_l1In.f x 1 3 = some (decide (1 ≤ x ∧ x ≤ 3)) := by
  unfold spec_l1In.f
  by_cases h : x ≥ 1
  · rw [if_pos h]; simp [h]
  · rw [if_neg h]; simp; omega
theorem within13 (x : Int) : impl_within.f x 1 3 = some (decide (1 ≤ x ∧ x ≤ 3)) := by
  unfold impl_within.f
  by_cases h : x ≥ 1
  · rw [if_pos h]; simp [h]
  · rw [if_neg h]; simp; omega
theorem spec_mvGood_ev (s : ByteArray) (n : Int) (hs : s.size < 9223372036854775807) : Ev (fun k => spec_mvGood.f k s n) (mvOK s n) :=
  mvOK_ends (spec_steps_from s hs (s.size - 0) 0 rfl (by omega)) spec_l1In.f l1In13
theorem impl_IsMove_ev (s : ByteArray) (n : Int) (hs : s.size < 9223372036854775807) : Ev (fun k => impl_IsMove.f k s n) (mvOK s n) :=
  mvOK_ends (impl_steps_from s hs (s.size - 0) 0 rfl (by omega)) impl_within.f within13
theorem mvOK_parts {s : ByteArray} {n : Int} (h : mvOK s n = true) : s.size ≤ 6 ∧ 1 ≤ n ∧ n ≤ 3 ∧ (s.toList = [] → n = 1) := by
  unfold mvOK at h
  simp only [Bool.and_eq_true, decide_eq_true_eq, Bool.or_eq_true, beq_iff_eq] at h
  obtain ⟨h1, _, h2, h3⟩ := h
  refine ⟨h1, h2.1, h2.2, fun he => ?_⟩
  rcases h3 with h3 | h3
  · exact absurd he h3
  · exact h3

/-- A text c times. -/
def rep (s : ByteArray) (c : Nat) : ByteArray := ⟨(Lib.repeatL s.data.toList c).toArray⟩
theorem rep_list (s : ByteArray) (c : Nat) : (rep s c).data.toList = Lib.repeatL s.data.toList c := by simp [rep]
theorem rep_size (s : ByteArray) (c : Nat) : (rep s c).size = c * s.size := by
  show (Lib.repeatL s.data.toList c).toArray.size = _
  rw [List.size_toArray, Lib.repeatL_length]; rfl
theorem repeatL_snoc (l : List UInt8) : ∀ c, Lib.repeatL l c ++ l = l ++ Lib.repeatL l c
  | 0 => by simp [Lib.repeatL]
  | c + 1 => by simp only [Lib.repeatL, List.append_assoc]; rw [repeatL_snoc l c]
theorem bs_ext {a b : ByteArray} (h : a.data.toList = b.data.toList) : a = b := by
  obtain ⟨⟨a⟩⟩ := a; obtain ⟨⟨b⟩⟩ := b; simp at h; rw [h]
theorem spec_times_from (s : ByteArray) : ∀ (c : Nat) (o : ByteArray), c < 9223372036854775807 → o.size + c * s.size ≤ 9223372036854775807 → Ev (fun k => spec_mvTimes.l0 k s (c : Int) o) (o ++ rep s c)
  | 0, o, hc, h => by
    refine ⟨1, fun k hk => ?_⟩
    obtain ⟨k, rfl⟩ : ∃ m, k = m + 1 := ⟨k - 1, by omega⟩
    simp only [spec_mvTimes.l0]
    rw [if_neg (by omega), show rep s 0 = ⟨#[]⟩ from rfl, bs_app_nil]
  | c + 1, o, hc, h => by
    have hm : (c + 1) * s.size = c * s.size + s.size := Nat.succ_mul _ _
    have hz := spec_times_from s c (o ++ s) (by omega) (by rw [ByteArray.size_append]; omega)
    have e : o ++ s ++ rep s c = o ++ rep s (c + 1) := by
      refine bs_ext ?_
      simp only [ByteArray.data_append, Array.toList_append, rep_list, Lib.repeatL, List.append_assoc]
    rw [e] at hz
    refine Ev.step (fun k => ?_) hz
    simp only [spec_mvTimes.l0]
    rw [if_pos (by omega), if_pos (by omega), w64_i (by omega) (by omega), show ((c + 1 : Nat) : Int) - 1 = (c : Int) by omega]
theorem spec_mvTimes_ev (s : ByteArray) (c : Nat) (hc : c < 9223372036854775807) (h : c * s.size ≤ 9223372036854775807) : Ev (fun k => spec_mvTimes.f k s (c : Int)) (rep s c) := by
  have := spec_times_from s c ⟨#[]⟩ hc (by show 0 + c * s.size ≤ _; omega)
  have e : (⟨#[]⟩ : ByteArray) ++ rep s c = rep s c := by
    refine bs_ext ?_
    simp [ByteArray.data_append]
  rwa [e] at this
theorem impl_rep (s : ByteArray) (c : Nat) (hc : c ≤ 9223372036854775807) (h : s.size * c ≤ 140737488355328) : strings_Repeat.f s (c : Int) = some (rep s c) := by
  unfold strings_Repeat.f
  rw [if_pos ⟨by omega, by omega, by simpa using h⟩]
  rfl
/-- All steps of a movement. -/
def mvSt (s : ByteArray) (n : Int) : ByteArray := rep s n.toNat
theorem spec_mvAll_ev {s : ByteArray} {n : Int} (h : mvOK s n = true) : Ev (fun k => spec_mvAll.f k s n) (mvSt s n) := by
  obtain ⟨h1, h2, h3, _⟩ := mvOK_parts h
  have hn : n = (n.toNat : Int) := by omega
  have hm : n.toNat * s.size ≤ 3 * 6 := Nat.mul_le_mul (by omega) h1
  have := spec_mvTimes_ev s n.toNat (by omega) (by omega)
  rw [← hn] at this
  unfold mvSt
  refine Ev.congr (fun k => ?_) this
  unfold spec_mvAll.f
  cases spec_mvTimes.f k s n <;> rfl
theorem impl_all {s : ByteArray} {n : Int} (h : mvOK s n = true) : impl_Move_all.f s n = some (mvSt s n) := by
  obtain ⟨h1, h2, h3, _⟩ := mvOK_parts h
  have hn : n = (n.toNat : Int) := by omega
  have hm : s.size * n.toNat ≤ 6 * 3 := Nat.mul_le_mul h1 (by omega)
  have := impl_rep s n.toNat (by omega) (by omega)
  rw [← hn] at this
  unfold impl_Move_all.f
  rw [this]
  rfl
theorem mvSt_size {s : ByteArray} {n : Int} (h : mvOK s n = true) : (mvSt s n).size ≤ 18 := by
  obtain ⟨h1, h2, h3, _⟩ := mvOK_parts h
  unfold mvSt
  rw [rep_size]
  exact Nat.le_trans (Nat.mul_le_mul (show n.toNat ≤ 3 by omega) h1) (by omega)
end Go.Proofs.Ytadddkdfbmbagaa.PA
