/- The plain law of movements: what is a movement, and all its steps, are the same for the program and the reference. -/
import Derived.Test.YtcicpmhcmlfhbaaGreatDoorPAx4
import Derived.Test.YtcicpmhcmlfhbaaGreatDoorPAx5
import Derived.Test.YtcicpmhcmlfhbaaGreatDoorBase
import Derived.Test.YtcicpmhcmlfhbaaGreatDoorPAx6
namespace Go.Proofs.YtcicpmhcmlfhbaaGreatDoor.PA
open Go.RowKit Go.Proofs.YtcicpmhcmlfhbaaGreatDoorW.PrintWords Go.Proofs.YtcicpmhcmlfhbaaGreatDoorW.PrintLast Go.Proofs.YtcicpmhcmlfhbaaGreatDoorW.PrintMore
set_option linter.unusedVariables false
set_option linter.unusedSimpArgs false

theorem w64_i {x : Int} (h0 : -9223372036854775808 ≤ x) (h1 : x ≤ 9223372036854775807) : wrap64 x = x := by
  unfold wrap64; omega
theorem w64_succ {i : Nat} (h : i < 9223372036854775807) : wrap64 ((i : Int) + 1) = ((i + 1 : Nat) : Int) := by
  rw [w64_i (by omega) (by omega)]; omega

/-- The letters of the directions. -/
def dirL : List UInt8 := [117, 100, 108, 114, 102, 98]
def dirIdx (x : Int) : Int := Lib.indexByte dirL x.toNat.toUInt8
theorem spec_idx : ∀ x : Fin 256, spec_mvIndex.f 8 (x.val : Int) = some (dirIdx (x.val : Int)) := by
  decide +kernel
theorem spec_mvIndex_ev (s : ByteArray) (i : Int) : Ev (fun k => spec_mvIndex.f k (bt s i)) (dirIdx (bt s i)) := by
  have h := bt_range s i
  have := spec_idx ⟨(bt s i).toNat, by omega⟩
  simp only [] at this
  rw [show (((bt s i).toNat : Nat) : Int) = bt s i by omega] at this
  exact Ev.of (fun k => spec_mvIndex.mono _ k) this
/-- Are all letters from i on directions? -/
def dirsFrom (s : ByteArray) (i : Nat) : Bool := (List.range' i (s.size - i)).all fun j => decide (0 ≤ dirIdx (bt s (j : Int)))
theorem dirsFrom_end (s : ByteArray) (i : Nat) (h : s.size ≤ i) : dirsFrom s i = true := by
  unfold dirsFrom; rw [show s.size - i = 0 by omega]; rfl
theorem dirsFrom_step (s : ByteArray) (i : Nat) (h : i < s.size) : dirsFrom s i = (decide (0 ≤ dirIdx (bt s (i : Int))) && dirsFrom s (i + 1)) := by
  unfold dirsFrom
  rw [show s.size - i = (s.size - (i + 1)) + 1 by omega, List.range'_succ, List.all_cons]
theorem spec_steps_from (s : ByteArray) (hs : s.size < 9223372036854775807) : ∀ (d i : Nat), s.size - i = d → i ≤ s.size → Ev (fun k => spec_mvSteps.l0 k s (i : Int)) (dirsFrom s i) := by
  intro d
  induction d with
  | zero =>
    intro i hd hi
    refine ⟨1, fun k hk => ?_⟩
    obtain ⟨k, rfl⟩ : ∃ m, k = m + 1 := ⟨k - 1, by omega⟩
    simp only [spec_mvSteps.l0]
    rw [if_neg (by omega), dirsFrom_end s i (by omega)]
  | succ d ih =>
    intro i hd hi
    have hlt : i < s.size := by omega
    refine Ev.step (f := fun k => (spec_mvIndex.f k (bt s (i : Int))).bind fun t => if t < 0 then some false else spec_mvSteps.l0 k s ((i + 1 : Nat) : Int)) (fun k => ?_) ?_
    · simp only [spec_mvSteps.l0]
      rw [if_pos (by omega), if_pos (by omega), if_pos (by omega), w64_succ (by omega)]
    · refine Ev.bind (spec_mvIndex_ev s i) ?_
      rw [dirsFrom_step s i hlt]
      by_cases h : 0 ≤ dirIdx (bt s (i : Int))
      · rw [decide_eq_true h, Bool.true_and]
        exact Ev.congr (fun k => by rw [if_neg (by omega)]) (ih (i + 1) (by omega) (by omega))
      · rw [decide_eq_false h, Bool.false_and]
        exact Ev.congr (f := fun _ => some false) (fun k => by rw [if_pos (by omega)]) (Ev.now _)
theorem impl_steps_from (s : ByteArray) (hs : s.size < 9223372036854775807) : ∀ (d i : Nat), s.size - i = d → i ≤ s.size → Ev (fun k => impl_hasOnly.l0 k s ⟨#[117, 100, 108, 114, 102, 98]⟩ (s.size : Int) (i : Int)) (dirsFrom s i) := by
  intro d
  induction d with
  | zero =>
    intro i hd hi
    refine ⟨1, fun k hk => ?_⟩
    obtain ⟨k, rfl⟩ : ∃ m, k = m + 1 := ⟨k - 1, by omega⟩
    simp only [impl_hasOnly.l0]
    rw [if_neg (by omega), dirsFrom_end s i (by omega)]
  | succ d ih =>
    intro i hd hi
    have hlt : i < s.size := by omega
    refine Ev.step (f := fun k => if dirIdx (bt s (i : Int)) < 0 then some false else impl_hasOnly.l0 k s ⟨#[117, 100, 108, 114, 102, 98]⟩ (s.size : Int) ((i + 1 : Nat) : Int)) (fun k => ?_) ?_
    · simp only [impl_hasOnly.l0]
      rw [if_pos (by omega), if_pos (by omega), if_pos (by omega), w64_succ (by omega)]
      rfl
    · rw [dirsFrom_step s i hlt]
      by_cases h : 0 ≤ dirIdx (bt s (i : Int))
      · rw [decide_eq_true h, Bool.true_and]
        exact Ev.congr (fun k => by rw [if_neg (by omega)]) (ih (i + 1) (by omega) (by omega))
      · rw [decide_eq_false h, Bool.false_and]
        exact Ev.congr (f := fun _ => some false) (fun k => by rw [if_pos (by omega)]) (Ev.now _)
/-- A valid movement. -/
def mvOK (s : ByteArray) (n : Int) : Bool := decide (s.size ≤ 6) && (dirsFrom s 0 && (decide (1 ≤ n ∧ n ≤ 3) && (decide (¬ s.toList = []) || n == 1)))
theorem mvOK_ends {g : Nat → Option Bool} {s : ByteArray} {n : Int} (h : Ev g (dirsFrom s 0)) (w : Int → Int → Int → Option Bool) (hw : ∀ x, w x 1 3 = some (decide (1 ≤ x ∧ x ≤ 3))) :
    Ev (fun k => if (s.size : Int) ≤ 6 then ((g k).bind fun t178 => (if t178 = true then ((w n 1 3).bind fun t179 => (if t179 = true then (if s.toList = ([] : List UInt8) then (some (n == 1)) else (some true)) else (some false))) else (some false))) else (some false)) (mvOK s n) := by
  unfold mvOK
  by_cases h6 : s.size ≤ 6
  · rw [decide_eq_true h6, Bool.true_and]
    refine Ev.congr (fun k => if_pos (by omega)) (Ev.bind h ?_)
    cases dirsFrom s 0
    · exact Ev.now _
    · rw [hw]
      by_cases h13 : 1 ≤ n ∧ n ≤ 3
      · rw [decide_eq_true h13]
        by_cases he : s.toList = []
        · simp only [he, if_true, Option.bind_some, Bool.true_and, not_true_eq_false, decide_false, Bool.false_or]; exact Ev.now _
        · simp only [he, if_true, if_false, Option.bind_some, Bool.true_and, not_false_eq_true, decide_true, Bool.true_or]; exact Ev.now _
      · rw [decide_eq_false h13]
        exact Ev.now _
  · rw [decide_eq_false h6, Bool.false_and]
    exact Ev.congr (f := fun _ => some false) (fun k => if_neg (by omega)) (Ev.now _)
theorem l1In13 (x : Int) : spec_l1In.f x 1 3 = some (decide (1 ≤ x ∧ x ≤ 3)) := by
  unfold spec_l1In.f
  by_cases h : x ≥ 1
  · rw [if_pos h]; simp [h]
  · rw [if_neg h]; simp; omega
theorem within13 (x : Int) : impl_within.f x 1 3 = some (decide (1 ≤ x ∧ x ≤ 3)) := by
  unfold impl_within.f
  by_cases h : x ≥ 1
  · rw [if_pos h]; simp [h]
  · rw [if_neg h]; simp; omega
theorem spec_mvGood_ev (s : ByteArray) (n : Int) (hs : s.size < 9223372036854775807) : Ev (fun k => spec_mvGood.f k s n) (mvOK s n) :=
  mvOK_ends (spec_steps_from s hs (s.size - 0) 0 rfl (by omega)) spec_l1In.f l1In13
theorem impl_IsMove_ev (s : ByteArray) (n : Int) (hs : s.size < 9223372036854775807) : Ev (fun k => impl_IsMove.f k s n) (mvOK s n) :=
  mvOK_ends (impl_steps_from s hs (s.size - 0) 0 rfl (by omega)) impl_within.f within13
theorem mvOK_parts {s : ByteArray} {n : Int} (h : mvOK s n = true) : s.size ≤ 6 ∧ 1 ≤ n ∧ n ≤ 3 ∧ (s.toList = [] → n = 1) := by
  unfold mvOK at h
  simp only [Bool.and_eq_true, decide_eq_true_eq, Bool.or_eq_true, beq_iff_eq] at h
  obtain ⟨h1, _, h2, h3⟩ := h
  refine ⟨h1, h2.1, h2.2, fun he => ?_⟩
  rcases h3 with h3 | h3
  · exact absurd he h3
  · exact h3

/-- A text c times. -/
def rep (s : ByteArray) (c : Nat) : ByteArray := ⟨(Lib.repeatL s.data.toList c).toArray⟩
theorem rep_list (s : ByteArray) (c : Nat) : (rep s c).data.toList = Lib.repeatL s.data.toList c := by simp [rep]
theorem rep_size (s : ByteArray) (c : Nat) : (rep s c).size = c * s.size := by
  show (Lib.repeatL s.data.toList c).toArray.size = _
  rw [List.size_toArray, Lib.repeatL_length]; rfl
theorem repeatL_snoc (l : List UInt8) : ∀ c, Lib.repeatL l c ++ l = l ++ Lib.repeatL l c
  | 0 => by simp [Lib.repeatL]
  | c + 1 => by simp only [Lib.repeatL, List.append_assoc]; rw [repeatL_snoc l c]
theorem bs_ext {a b : ByteArray} (h : a.data.toList = b.data.toList) : a = b := by
  obtain ⟨⟨a⟩⟩ := a; obtain ⟨⟨b⟩⟩ := b; simp at h; rw [h]
theorem spec_times_from (s : ByteArray) : ∀ (c : Nat) (o : ByteArray), c < 9223372036854775807 → o.size + c * s.size ≤ 9223372036854775807 → Ev (fun k => spec_mvTimes.l0 k s (c : Int) o) (o ++ rep s c)
  | 0, o, hc, h => by
    refine ⟨1, fun k hk => ?_⟩
    obtain ⟨k, rfl⟩ : ∃ m, k = m + 1 := ⟨k - 1, by omega⟩
    simp only [spec_mvTimes.l0]
    rw [if_neg (by omega), show rep s 0 = ⟨#[]⟩ from rfl, bs_app_nil]
  | c + 1, o, hc, h => by
    have hm : (c + 1) * s.size = c * s.size + s.size := Nat.succ_mul _ _
    have hz := spec_times_from s c (o ++ s) (by omega) (by rw [ByteArray.size_append]; omega)
    have e : o ++ s ++ rep s c = o ++ rep s (c + 1) := by
      refine bs_ext ?_
      simp only [ByteArray.data_append, Array.toList_append, rep_list, Lib.repeatL, List.append_assoc]
    rw [e] at hz
    refine Ev.step (fun k => ?_) hz
    simp only [spec_mvTimes.l0]
    rw [if_pos (by omega), if_pos (by omega), w64_i (by omega) (by omega), show ((c + 1 : Nat) : Int) - 1 = (c : Int) by omega]
theorem spec_mvTimes_ev (s : ByteArray) (c : Nat) (hc : c < 9223372036854775807) (h : c * s.size ≤ 9223372036854775807) : Ev (fun k => spec_mvTimes.f k s (c : Int)) (rep s c) := by
  have := spec_times_from s c ⟨#[]⟩ hc (by show 0 + c * s.size ≤ _; omega)
  have e : (⟨#[]⟩ : ByteArray) ++ rep s c = rep s c := by
    refine bs_ext ?_
    simp [ByteArray.data_append]
  rwa [e] at this
theorem impl_rep (s : ByteArray) (c : Nat) (hc : c ≤ 9223372036854775807) (h : s.size * c ≤ 140737488355328) : strings_Repeat.f s (c : Int) = some (rep s c) := by
  unfold strings_Repeat.f
  rw [if_pos ⟨by omega, by omega, by simpa using h⟩]
  rfl
/-- All steps of a movement. -/
def mvSt (s : ByteArray) (n : Int) : ByteArray := rep s n.toNat
theorem spec_mvAll_ev {s : ByteArray} {n : Int} (h : mvOK s n = true) : Ev (fun k => spec_mvAll.f k s n) (mvSt s n) := by
  obtain ⟨h1, h2, h3, _⟩ := mvOK_parts h
  have hn : n = (n.toNat : Int) := by omega
  have hm : n.toNat * s.size ≤ 3 * 6 := Nat.mul_le_mul (by omega) h1
  have := spec_mvTimes_ev s n.toNat (by omega) (by omega)
  rw [← hn] at this
  unfold mvSt
  refine Ev.congr (fun k => ?_) this
  unfold spec_mvAll.f
  cases spec_mvTimes.f k s n <;> rfl
theorem impl_all {s : ByteArray} {n : Int} (h : mvOK s n = true) : impl_Move_all.f s n = some (mvSt s n) := by
  obtain ⟨h1, h2, h3, _⟩ := mvOK_parts h
  have hn : n = (n.toNat : Int) := by omega
  have hm : s.size * n.toNat ≤ 6 * 3 := Nat.mul_le_mul h1 (by omega)
  have := impl_rep s n.toNat (by omega) (by omega)
  rw [← hn] at this
  unfold impl_Move_all.f
  rw [this]
  rfl
theorem mvSt_size {s : ByteArray} {n : Int} (h : mvOK s n = true) : (mvSt s n).size ≤ 18 := by
  obtain ⟨h1, h2, h3, _⟩ := mvOK_parts h
  unfold mvSt
  rw [rep_size]
  exact Nat.le_trans (Nat.mul_le_mul (show n.toNat ≤ 3 by omega) h1) (by omega)
end Go.Proofs.YtcicpmhcmlfhbaaGreatDoor.PA

namespace Go.Proofs.YtcicpmhcmlfhbaaGreatDoor.PA
open Go.RowKit Go.Proofs.YtcicpmhcmlfhbaaGreatDoorW.PrintWords Go.Proofs.YtcicpmhcmlfhbaaGreatDoorW.PrintLast Go.Proofs.YtcicpmhcmlfhbaaGreatDoorW.PrintMore
set_option linter.unusedVariables false
set_option linter.unusedSimpArgs false
theorem szMove_small (s : ByteArray) (n a : Int) (hs : s.size ≤ 9223372036854775807) (h0 : 0 ≤ a) (h1 : a ≤ 1048576) (h : (s.size : Int) ≤ a) : laws_szMove.f s n a = some (a - (s.size : Int)) := by
  unfold laws_szMove.f
  rw [w64_i (by omega) (by omega), if_neg (by omega)]
theorem szMove_big (s : ByteArray) (n a : Int) (hs : s.size ≤ 9223372036854775807) (h0 : 0 ≤ a) (h1 : a ≤ 1048576) (h : a < (s.size : Int)) : laws_szMove.f s n a = some (-1) := by
  unfold laws_szMove.f
  rw [w64_i (by omega) (by omega), if_pos (by omega)]
theorem Ev.shift {α : Type} {g : Nat → Option α} {r : α} (h : Ev (fun k => g (k + 1)) r) : Ev g r := Ev.step (fun _ => rfl) h
end Go.Proofs.YtcicpmhcmlfhbaaGreatDoor.PA

namespace Go.Proofs.YtcicpmhcmlfhbaaGreatDoor.PA
open Go.RowKit Go.Proofs.YtcicpmhcmlfhbaaGreatDoorW.PrintWords Go.Proofs.YtcicpmhcmlfhbaaGreatDoorW.PrintLast Go.Proofs.YtcicpmhcmlfhbaaGreatDoorW.PrintMore
set_option linter.unusedVariables false
set_option linter.unusedSimpArgs false
theorem in_val (a b c : Int) : spec_l1In.f a b c = some (decide (b ≤ a ∧ a ≤ c)) := by
  unfold spec_l1In.f
  by_cases h : b ≤ a
  · rw [if_pos h]; simp [h]
  · rw [if_neg h]; simp [h]
theorem rd_at (l : List Int) (i : Nat) (h : i < l.length) : rd l (i : Int) = l[i] := by
  unfold rd
  rw [List.getD_eq_getElem?_getD]
  simp [h]
theorem all_from (l : List Int) (a1 a2 : Int) (hl : l.length ≤ 1000) : ∀ (d i : Nat), l.length - i = d → i ≤ l.length → Ev (fun k => spec_l1All.l0 k a1 a2 l (l.length : Int) (i : Int)) (awAll a1 a2 (l.drop i))
  | 0, i, hd, hi => by
    rw [List.drop_eq_nil_of_le (by omega)]
    refine Ev.step (f := fun _ => some true) (fun k => ?_) (Ev.now _)
    simp only [spec_l1All.l0]
    rw [if_neg (by omega)]
  | d + 1, i, hd, hi => by
    have hlt : i < l.length := by omega
    have hw : wrap64 ((i : Int) + 1) = ((i + 1 : Nat) : Int) := w64_succ (by omega)
    rw [List.drop_eq_getElem_cons hlt]
    by_cases h : a1 ≤ l[i] ∧ l[i] ≤ a2
    · have e : awAll a1 a2 (l[i] :: l.drop (i + 1)) = awAll a1 a2 (l.drop (i + 1)) := by simp only [awAll, List.all_cons, decide_eq_true h, Bool.true_and]
      rw [e]
      refine Ev.step (fun k => ?_) (all_from l a1 a2 hl d (i + 1) (by omega) (by omega))
      simp only [spec_l1All.l0, hw, rd_at l i hlt, in_val]
      rw [if_pos (by omega), if_pos (by omega), if_pos (by omega), Option.bind_some, if_pos (decide_eq_true h)]
    · have e : awAll a1 a2 (l[i] :: l.drop (i + 1)) = false := by simp only [awAll, List.all_cons, decide_eq_false h, Bool.false_and]
      rw [e]
      refine Ev.step (f := fun _ => some false) (fun k => ?_) (Ev.now _)
      simp only [spec_l1All.l0, hw, rd_at l i hlt, in_val]
      rw [if_pos (by omega), if_pos (by omega), if_pos (by omega), Option.bind_some, if_neg (by rw [decide_eq_false h]; decide)]
theorem all_ev (l : List Int) (a1 a2 : Int) (hl : l.length ≤ 1000) : Ev (fun k => spec_l1All.f k l a1 a2) (awAll a1 a2 l) := all_from l a1 a2 hl _ 0 rfl (Nat.zero_le _)
/-- May a shape be spread? -/
def wideV (i m r l : Int) : Bool := if m = 0 then (if i = 0 then true else if r = 0 then true else false) else (if r = 0 then l == 0 else false)
theorem impl_spread (t i m r l : Int) (s : Bool) : impl_Shape_maySpread.f t i m r l s = some (wideV i m r l) := by
  unfold impl_Shape_maySpread.f wideV
  split <;> split <;> (try split) <;> rfl
theorem wide_ev (t i m r l : Int) (s : Bool) : Ev (fun k => spec_shWide.f k t i m r l s) (wideV i m r l) := by
  have w0 : wrap64 0 = 0 := w64_i (by decide) (by decide)
  have w1 : wrap64 1 = 1 := w64_i (by decide) (by decide)
  have w2 : wrap64 2 = 2 := w64_i (by decide) (by decide)
  have w3 : wrap64 3 = 3 := w64_i (by decide) (by decide)
  have w4 : wrap64 4 = 4 := w64_i (by decide) (by decide)
  have s4 : Ev (fun k => spec_shWide.l0 k [i, m, r, l] 4) false := Ev.step (f := fun _ => some false) (fun k => by simp [spec_shWide.l0]) (Ev.now _)
  have s3 : Ev (fun k => spec_shWide.l0 k [i, m, r, l] 3) (decide (r = 0 ∧ l = 0)) := by
    by_cases h : r = 0
    · by_cases h' : l = 0
      · exact Ev.step (f := fun _ => some (decide (r = 0 ∧ l = 0))) (fun k => by simp [spec_shWide.l0, rd, w0, w1, w2, w3, w4, h, h']) (Ev.now _)
      · rw [decide_eq_false (fun e => h' e.2)]; exact Ev.step (fun k => by simp [spec_shWide.l0, rd, w0, w1, w2, w3, w4, h, h']) s4
    · rw [decide_eq_false (fun e => h e.1)]; exact Ev.step (fun k => by simp [spec_shWide.l0, rd, w0, w1, w2, w3, w4, h]) s4
  have s2 : Ev (fun k => spec_shWide.l0 k [i, m, r, l] 2) (decide ((m = 0 ∧ r = 0) ∨ (r = 0 ∧ l = 0))) := by
    by_cases h : m = 0 ∧ r = 0
    · rw [decide_eq_true (.inl h)]; exact Ev.step (f := fun _ => some true) (fun k => by simp [spec_shWide.l0, rd, w0, w1, w2, w3, w4, h.1, h.2]) (Ev.now _)
    · have e : decide ((m = 0 ∧ r = 0) ∨ (r = 0 ∧ l = 0)) = decide (r = 0 ∧ l = 0) := by simp [h]
      rw [e]
      refine Ev.step (fun k => ?_) s3
      by_cases h1 : m = 0
      · have h2 : r ≠ 0 := fun e => h ⟨h1, e⟩
        simp [spec_shWide.l0, rd, w0, w1, w2, w3, w4, h1, h2]
      · simp [spec_shWide.l0, rd, w0, w1, w2, w3, w4, h1]
  have s1 : Ev (fun k => spec_shWide.l0 k [i, m, r, l] 1) (decide ((i = 0 ∧ m = 0) ∨ (m = 0 ∧ r = 0) ∨ (r = 0 ∧ l = 0))) := by
    by_cases h : i = 0 ∧ m = 0
    · rw [decide_eq_true (.inl h)]; exact Ev.step (f := fun _ => some true) (fun k => by simp [spec_shWide.l0, rd, w0, w1, w2, w3, w4, h.1, h.2]) (Ev.now _)
    · have e : decide ((i = 0 ∧ m = 0) ∨ (m = 0 ∧ r = 0) ∨ (r = 0 ∧ l = 0)) = decide ((m = 0 ∧ r = 0) ∨ (r = 0 ∧ l = 0)) := by simp [h]
      rw [e]
      refine Ev.step (fun k => ?_) s2
      by_cases h1 : i = 0
      · have h2 : m ≠ 0 := fun e => h ⟨h1, e⟩
        simp [spec_shWide.l0, rd, w0, w1, w2, w3, w4, h1, h2]
      · simp [spec_shWide.l0, rd, w0, w1, w2, w3, w4, h1]
  have e : wideV i m r l = decide ((i = 0 ∧ m = 0) ∨ (m = 0 ∧ r = 0) ∨ (r = 0 ∧ l = 0)) := by
    unfold wideV
    by_cases h1 : m = 0 <;> by_cases h2 : i = 0 <;> by_cases h3 : r = 0 <;> by_cases h4 : l = 0 <;> simp [h1, h2, h3, h4]
  rw [e]
  unfold spec_shWide.f
  simp only [spec_shFingers.f, Option.bind_some]
  exact s1
/-- A valid shape. -/
def shOK (t i m r l : Int) (s : Bool) : Bool := if awAll 0 2 [t, i, m, r, l] = true then (if s = true then wideV i m r l else true) else false
theorem impl_shape (t i m r l : Int) (s : Bool) : impl_IsShape.f t i m r l s = some (shOK t i m r l s) := by
  unfold impl_IsShape.f shOK
  simp only [Option.bind_some, impl_Shape_bends.f, impl_allWithin.f, impl_spread]
  rw [if_pos (by first | (simp; done) | exact Refl.appLen_of (by simp)), if_pos (by simp), Option.bind_some]
  show (if awAll 0 2 [t, i, m, r, l] = true then _ else _) = _
  split <;> (try split) <;> rfl
theorem spec_shape_ev (t i m r l : Int) (s : Bool) : Ev (fun k => spec_shGood.f k t i m r l s) (shOK t i m r l s) := by
  unfold spec_shGood.f shOK
  simp only [in_val, Option.bind_some, spec_shFingers.f]
  by_cases h : 0 ≤ t ∧ t ≤ 2
  · simp only [decide_eq_true h, if_true]
    refine Ev.bind (all_ev _ _ _ (by simp)) ?_
    have e : awAll 0 2 [t, i, m, r, l] = awAll 0 2 [i, m, r, l] := by unfold awAll; rw [List.all_cons, decide_eq_true h, Bool.true_and]
    rw [e]
    cases awAll 0 2 [i, m, r, l]
    · simp only [Bool.false_eq_true, if_false]; exact Ev.now _
    · simp only [if_true]
      cases s
      · simp only [Bool.false_eq_true, if_false]; exact Ev.now _
      · simp only [if_true]
        exact Ev.bind (wide_ev _ _ _ _ _ _) (Ev.now _)
  · simp only [decide_eq_false h, Bool.false_eq_true, if_false]
    have e : awAll 0 2 [t, i, m, r, l] = false := by simp only [awAll, List.all_cons, decide_eq_false h, Bool.false_and]
    rw [e]
    simp only [Bool.false_eq_true, if_false]
    exact Ev.now _
theorem shOK_in {t i m r l : Int} {s : Bool} (h : shOK t i m r l s = true) : (0 ≤ t ∧ t ≤ 2) ∧ (0 ≤ i ∧ i ≤ 2) ∧ (0 ≤ m ∧ m ≤ 2) ∧ (0 ≤ r ∧ r ≤ 2) ∧ (0 ≤ l ∧ l ≤ 2) := by
  unfold shOK at h
  split at h
  · rename_i h1
    simp only [awAll, List.all_cons, List.all_nil, Bool.and_true, Bool.and_eq_true, decide_eq_true_eq] at h1
    exact h1
  · cases h
/-- A valid orientation. -/
def orOK (p f : Int) : Bool := decide (0 ≤ p ∧ p ≤ 5) && (decide (0 ≤ f ∧ f ≤ 5) && decide (p / 2 ≠ f / 2))
theorem six (p : Int) (h : 0 ≤ p ∧ p ≤ 5) : p = 0 ∨ p = 1 ∨ p = 2 ∨ p = 3 ∨ p = 4 ∨ p = 5 := by omega
theorem impl_orient (p f : Int) : impl_IsOrient.f p f = some (orOK p f) := by
  unfold impl_IsOrient.f orOK
  simp only [aw_within, Option.bind_some]
  by_cases h : 0 ≤ p ∧ p ≤ 5
  · by_cases h' : 0 ≤ f ∧ f ≤ 5
    · rcases six p h with rfl | rfl | rfl | rfl | rfl | rfl <;> rcases six f h' with rfl | rfl | rfl | rfl | rfl | rfl <;> kernel_rfl
    · simp only [decide_eq_true h, decide_eq_false h', if_true, Bool.false_eq_true, if_false, Bool.true_and, Bool.false_and]
  · simp only [decide_eq_false h, Bool.false_eq_true, if_false, Bool.false_and]
theorem spec_orient (p f : Int) : spec_orGood.f p f = some (orOK p f) := by
  unfold spec_orGood.f orOK
  simp only [spec_orDir.f, in_val, Option.bind_some]
  by_cases h : 0 ≤ p ∧ p ≤ 5
  · by_cases h' : 0 ≤ f ∧ f ≤ 5
    · rcases six p h with rfl | rfl | rfl | rfl | rfl | rfl <;> rcases six f h' with rfl | rfl | rfl | rfl | rfl | rfl <;> kernel_rfl
    · simp only [decide_eq_true h, decide_eq_false h', if_true, Bool.false_eq_true, if_false, Bool.true_and, Bool.false_and]
  · simp only [decide_eq_false h, Bool.false_eq_true, if_false, Bool.false_and]
/-- A valid place. -/
def plOK (g s : Int) (c : Bool) : Bool := decide (0 ≤ g ∧ g ≤ 9) && (decide (-1 ≤ s ∧ s ≤ 1) && !(c && g == 0))
theorem impl_place (g s : Int) (c : Bool) : impl_IsPlace.f g s c = some (plOK g s c) := by
  unfold impl_IsPlace.f plOK
  simp only [aw_within, Option.bind_some]
  by_cases h : 0 ≤ g ∧ g ≤ 9
  · by_cases h' : -1 ≤ s ∧ s ≤ 1
    · simp only [decide_eq_true h, decide_eq_true h', if_true, Bool.true_and]
      cases c <;> simp
    · simp only [decide_eq_true h, decide_eq_false h', if_true, Bool.false_eq_true, if_false, Bool.true_and, Bool.false_and]
  · simp only [decide_eq_false h, Bool.false_eq_true, if_false, Bool.false_and]
theorem spec_place (g s : Int) (c : Bool) : spec_plGood.f g s c = some (plOK g s c) := by
  unfold spec_plGood.f plOK
  simp only [in_val, Option.bind_some]
  by_cases h : 0 ≤ g ∧ g ≤ 9
  · by_cases h' : -1 ≤ s ∧ s ≤ 1
    · simp only [decide_eq_true h, decide_eq_true h', if_true, Bool.true_and]
      by_cases h0 : g > 0
      · have e : (g == 0) = false := by simp; omega
        rw [if_pos h0, e]; simp
      · have e : (g == 0) = true := by simp; omega
        rw [if_neg h0, e]; simp
    · simp only [decide_eq_true h, decide_eq_false h', if_true, Bool.false_eq_true, if_false, Bool.true_and, Bool.false_and]
  · simp only [decide_eq_false h, Bool.false_eq_true, if_false, Bool.false_and]
/-- A valid hand. -/
def hdOK (t i m r l : Int) (s : Bool) (p f g d : Int) (c : Bool) (b : ByteArray) (n : Int) : Bool := shOK t i m r l s && (orOK p f && (plOK g d c && mvOK b n))
theorem spec_hand_ev (t i m r l : Int) (s : Bool) (p f g d : Int) (c : Bool) (b : ByteArray) (n : Int) (hb : b.size ≤ 1048576) : Ev (fun k => spec_siHand.f k t i m r l s p f g d c b n) (hdOK t i m r l s p f g d c b n) := by
  unfold spec_siHand.f hdOK
  refine Ev.bind (spec_shape_ev t i m r l s) ?_
  cases shOK t i m r l s
  · simp only [Bool.false_eq_true, if_false, Bool.false_and]; exact Ev.now _
  · simp only [if_true, Bool.true_and, spec_orient, Option.bind_some]
    cases orOK p f
    · simp only [Bool.false_eq_true, if_false, Bool.false_and]; exact Ev.now _
    · simp only [if_true, Bool.true_and, spec_place, Option.bind_some]
      cases plOK g d c
      · simp only [Bool.false_eq_true, if_false, Bool.false_and]; exact Ev.now _
      · simp only [if_true, Bool.true_and]
        exact Ev.bind (spec_mvGood_ev b n (by omega)) (Ev.now _)
theorem impl_hand_ev (t i m r l : Int) (s : Bool) (p f g d : Int) (c : Bool) (b : ByteArray) (n : Int) (hb : b.size ≤ 1048576) : Ev (fun k => impl_IsHand.f k t i m r l s p f g d c b n) (hdOK t i m r l s p f g d c b n) := by
  unfold impl_IsHand.f hdOK
  simp only [impl_shape, impl_orient, impl_place, Option.bind_some]
  cases shOK t i m r l s
  · simp only [Bool.false_eq_true, if_false, Bool.false_and]; exact Ev.now _
  · simp only [if_true, Bool.true_and]
    cases orOK p f
    · simp only [Bool.false_eq_true, if_false, Bool.false_and]; exact Ev.now _
    · simp only [if_true, Bool.true_and]
      cases plOK g d c
      · simp only [Bool.false_eq_true, if_false, Bool.false_and]; exact Ev.now _
      · simp only [if_true, Bool.true_and]
        exact Ev.bind (impl_IsMove_ev b n (by omega)) (Ev.now _)
end Go.Proofs.YtcicpmhcmlfhbaaGreatDoor.PA

namespace Go.Proofs.YtcicpmhcmlfhbaaGreatDoor.PA
open Go.RowKit Go.Proofs.YtcicpmhcmlfhbaaGreatDoorW.PrintWords Go.Proofs.YtcicpmhcmlfhbaaGreatDoorW.PrintLast Go.Proofs.YtcicpmhcmlfhbaaGreatDoorW.PrintMore
set_option linter.unusedVariables false
set_option linter.unusedSimpArgs false
theorem spec_swap (d : Int) : spec_orSwap.f d = some (orSw d) := by
  unfold spec_orSwap.f orSw
  by_cases h : d = 2
  · subst h; kernel_rfl
  · by_cases h' : d = 3
    · subst h'; kernel_rfl
    · rw [if_neg h, if_neg h', if_neg h, if_neg h']
theorem spec_or_mirror (p f : Int) : spec_orMirror.f p f = some (orSw p, orSw f) := by
  unfold spec_orMirror.f
  simp only [spec_swap, Option.bind_some]
theorem impl_or_mirror (p f : Int) : impl_Orient_mirrored.f p f = some (orSw p, orSw f) := rfl
theorem orSw_orSw (d : Int) : orSw (orSw d) = d := by
  unfold orSw
  by_cases h : d = 2
  · subst h; rfl
  · by_cases h' : d = 3
    · subst h'; rfl
    · rw [if_neg h, if_neg h', if_neg h, if_neg h']
theorem orSw_eq (a b : Int) : (a == orSw b) = (b == orSw a) := by
  rw [Bool.eq_iff_iff, beq_iff_eq, beq_iff_eq]
  constructor
  · rintro rfl; exact (orSw_orSw b).symm
  · rintro rfl; exact (orSw_orSw a).symm
theorem mir_bt (s : ByteArray) (i : Nat) (h : i < s.size) : bt s (i : Int) = ((s.data.toList[i]'(by rw [Array.length_toList]; exact h)).toNat : Int) := by
  unfold bt
  rw [dif_pos (show ((i : Int)).toNat < s.size by omega)]
  simp [ByteArray.getElem_eq_getElem_data]
/-- The first i letters, mirrored. -/
def mirPre (s : ByteArray) (i : Nat) : ByteArray := ⟨((s.data.toList.take i).map mirB).toArray⟩
theorem mirPre_size (s : ByteArray) (i : Nat) (h : i ≤ s.size) : (mirPre s i).size = i := by
  show ((s.data.toList.take i).map mirB).toArray.size = i
  have : s.data.toList.length = s.size := Array.length_toList
  simp; omega
theorem mirPre_succ (s : ByteArray) (i : Nat) (h : i < s.size) (b : ByteArray) (hb : b.data.toList = [mirB (s.data.toList[i]'(by rw [Array.length_toList]; exact h))]) : mirPre s i ++ b = mirPre s (i + 1) := by
  refine bs_ext ?_
  have hl : i < s.data.toList.length := by rw [Array.length_toList]; exact h
  show (mirPre s i ++ b).data.toList = ((s.data.toList.take (i + 1)).map mirB).toArray.toList
  rw [List.take_succ_eq_append_getElem hl]
  simp only [ByteArray.data_append, Array.toList_append, hb, List.map_append, List.map_cons, List.map_nil]
  rfl
theorem mirPre_all (s : ByteArray) : mirPre s s.size = mirS s := by
  refine bs_ext ?_
  show ((s.data.toList.take s.size).map mirB).toArray.toList = (s.data.map mirB).toList
  rw [List.take_of_length_le (by rw [Array.length_toList]; exact Nat.le_refl _)]
  simp
theorem ext_one (s : ByteArray) (i : Nat) (h : i < s.size) : (s.extract i (i + 1)).data.toList = [s.data.toList[i]'(by rw [Array.length_toList]; exact h)] := by
  have hl : i < s.data.toList.length := by rw [Array.length_toList]; exact h
  rw [ByteArray.data_extract, Array.toList_extract, List.extract_eq_take_drop, show i + 1 - i = 1 by omega, List.drop_eq_getElem_cons hl]
  rfl
theorem mirror_from (s : ByteArray) (n : Int) (hs : s.size ≤ 1000000) : ∀ (d i : Nat), s.size - i = d → i ≤ s.size → Ev (fun k => spec_mvMirror.l0 k (mirPre s i) (i : Int) s n) (mirS s, n)
  | 0, i, hd, hi => by
    have e : i = s.size := by omega
    subst e
    refine Ev.step (f := fun _ => some (mirS s, n)) (fun k => ?_) (Ev.now _)
    simp only [spec_mvMirror.l0]
    rw [if_neg (by omega), mirPre_all]
  | d + 1, i, hd, hi => by
    have hlt : i < s.size := by omega
    have hl : i < s.data.toList.length := by rw [Array.length_toList]; exact hlt
    have hw : wrap64 ((i : Int) + 1) = ((i + 1 : Nat) : Int) := w64_succ (by omega)
    have ih := mirror_from s n hs d (i + 1) (by omega) (by omega)
    have hz := mirPre_size s i hi
    have hb := mir_bt s i hlt
    refine Ev.step (fun k => ?_) ih
    simp only [spec_mvMirror.l0, hw, hb, hz]
    rw [if_pos (by omega), if_pos (by omega), if_pos (by omega)]
    obtain ⟨c, hc⟩ : ∃ c, s.data.toList[i] = c := ⟨_, rfl⟩
    rw [hc]
    by_cases h1 : c = 108
    · rw [if_pos (by rw [h1]; rfl), if_pos (by omega), mirPre_succ s i hlt ⟨#[114]⟩ (by rw [hc, h1]; rfl)]
    · have e1 : ¬ ((c.toNat : Int) = 108) := fun x => h1 (UInt8.toNat_inj.1 (by show c.toNat = 108; omega))
      rw [if_neg e1]
      by_cases h2 : c = 114
      · rw [if_pos (by rw [h2]; rfl), if_pos (by omega), mirPre_succ s i hlt ⟨#[108]⟩ (by rw [hc, h2]; rfl)]
      · have e2 : ¬ ((c.toNat : Int) = 114) := fun x => h2 (UInt8.toNat_inj.1 (by show c.toNat = 114; omega))
        have hx := ext_one s i hlt
        have hxs : (s.extract i (i + 1)).size = 1 := by
          show (s.extract i (i + 1)).data.size = 1
          rw [← Array.length_toList, hx]; rfl
        rw [if_neg e2, if_pos (by omega), if_pos (by omega), if_pos (by omega), show ((i : Int)).toNat = i by omega, show (((i + 1 : Nat) : Int)).toNat = i + 1 by omega, hxs, if_pos (by omega), mirPre_succ s i hlt _ (by rw [hx, hc]; unfold mirB; rw [if_neg h1, if_neg h2])]
theorem spec_mirror_ev (s : ByteArray) (n : Int) (hs : s.size ≤ 1000000) : Ev (fun k => spec_mvMirror.f k s n) (mirS s, n) := by
  unfold spec_mvMirror.f
  exact mirror_from s n hs _ 0 rfl (Nat.zero_le _)
theorem impl_mirror (s : ByteArray) (n : Int) (hs : s.size ≤ 1000000) : impl_Move_mirrored.f s n = some (mirS s, n) := by
  unfold impl_Move_mirrored.f
  rw [if_pos hs]
/-- All steps, of texts and numbers that are small. -/
theorem spec_all_ev {s : ByteArray} {n : Int} (h1 : s.size ≤ 6) (h2 : 0 ≤ n) (h3 : n ≤ 3) : Ev (fun k => spec_mvAll.f k s n) (mvSt s n) := by
  have hn : n = (n.toNat : Int) := by omega
  have hm : n.toNat * s.size ≤ 3 * 6 := Nat.mul_le_mul (by omega) h1
  have := spec_mvTimes_ev s n.toNat (by omega) (by omega)
  rw [← hn] at this
  unfold mvSt
  refine Ev.congr (fun k => ?_) this
  unfold spec_mvAll.f
  cases spec_mvTimes.f k s n <;> rfl
theorem impl_all' {s : ByteArray} {n : Int} (h1 : s.size ≤ 6) (h2 : 0 ≤ n) (h3 : n ≤ 3) : impl_Move_all.f s n = some (mvSt s n) := by
  have hn : n = (n.toNat : Int) := by omega
  have hm : s.size * n.toNat ≤ 6 * 3 := Nat.mul_le_mul h1 (by omega)
  have := impl_rep s n.toNat (by omega) (by omega)
  rw [← hn] at this
  unfold impl_Move_all.f
  rw [this]
  rfl
end Go.Proofs.YtcicpmhcmlfhbaaGreatDoor.PA

namespace Go.Proofs.YtcicpmhcmlfhbaaGreatDoor.PA
open Go.RowKit Go.Proofs.YtcicpmhcmlfhbaaGreatDoorW.PrintWords Go.Proofs.YtcicpmhcmlfhbaaGreatDoorW.PrintLast Go.Proofs.YtcicpmhcmlfhbaaGreatDoorW.PrintMore
set_option linter.unusedVariables false
set_option linter.unusedSimpArgs false
/-- The plain shapes. -/
def plainL : List S23 := [⟨0, 0, 0, 0, 0, false⟩, ⟨0, 0, 0, 0, 0, true⟩, ⟨2, 2, 2, 2, 2, false⟩, ⟨1, 0, 0, 0, 0, false⟩, ⟨1, 0, 2, 2, 2, false⟩, ⟨0, 0, 2, 2, 2, false⟩]
theorem spec_plain : spec_siPlain.f 40 = some plainL := by kernel_rfl
theorem impl_plain : impl_PlainShapes.f 40 = some plainL := by kernel_rfl
theorem spec_plain_ev : Ev (fun k => spec_siPlain.f k) plainL := Ev.of (fun k => spec_siPlain.mono k) spec_plain
theorem impl_plain_ev : Ev (fun k => impl_PlainShapes.f k) plainL := Ev.of (fun k => impl_PlainShapes.mono k) impl_plain
/-- The same shape? -/
def shEq (t i m r l : Int) (s : Bool) (t' i' m' r' l' : Int) (s' : Bool) : Bool := t == t' && (i == i' && (m == m' && (r == r' && (l == l' && (s == s')))))
theorem shEq_comm (t i m r l : Int) (s : Bool) (t' i' m' r' l' : Int) (s' : Bool) : shEq t i m r l s t' i' m' r' l' s' = shEq t' i' m' r' l' s' t i m r l s := by
  unfold shEq
  rw [BEq.comm (a := t), BEq.comm (a := i), BEq.comm (a := m), BEq.comm (a := r), BEq.comm (a := l), BEq.comm (a := s)]
theorem shNe (t i m r l : Int) (s : Bool) (t' i' m' r' l' : Int) (s' : Bool) : (!(t == t') || (!(i == i') || (!(m == m') || (!(r == r') || (!(l == l') || (!(s == s'))))))) = !shEq t i m r l s t' i' m' r' l' s' := by
  unfold shEq
  simp only [Bool.not_and]
/-- Is a shape among others? -/
def shIn (L : List S23) (t i m r l : Int) (s : Bool) : Bool := L.any fun x => shEq x.f0 x.f1 x.f2 x.f3 x.f4 x.f5 t i m r l s
theorem sh_at (L : List S23) (i : Nat) (h : i < L.length) : rd_T23 L (i : Int) = L[i] := by
  unfold rd_T23
  rw [List.getD_eq_getElem?_getD]
  simp [h]
theorem shIn_cons (L : List S23) (j : Nat) (h : j < L.length) (t i m r l : Int) (s : Bool) : shIn (L.drop j) t i m r l s = (shEq L[j].f0 L[j].f1 L[j].f2 L[j].f3 L[j].f4 L[j].f5 t i m r l s || shIn (L.drop (j + 1)) t i m r l s) := by
  unfold shIn
  rw [List.drop_eq_getElem_cons h, List.any_cons]
theorem spec_in_from (L : List S23) (hL : L.length ≤ 1000) (t i m r l : Int) (s : Bool) (p f g d : Int) (c : Bool) (b : ByteArray) (n : Int) : ∀ (e j : Nat), L.length - j = e → j ≤ L.length →
    Ev (fun k => spec_siBroken.l0 k L (L.length : Int) (j : Int) t i m r l s p f g d c b n) (if shIn (L.drop j) t i m r l s = true then 0 else 4)
  | 0, j, he, hj => by
    rw [List.drop_eq_nil_of_le (by omega)]
    refine Ev.step (f := fun _ => some 4) (fun k => ?_) (Ev.now _)
    simp only [spec_siBroken.l0]
    rw [if_neg (by omega)]
  | e + 1, j, he, hj => by
    have hlt : j < L.length := by omega
    have hw : wrap64 ((j : Int) + 1) = ((j + 1 : Nat) : Int) := w64_succ (by omega)
    rw [shIn_cons L j hlt]
    cases hq : shEq L[j].f0 L[j].f1 L[j].f2 L[j].f3 L[j].f4 L[j].f5 t i m r l s
    · refine Ev.step (fun k => ?_) (spec_in_from L hL t i m r l s p f g d c b n e (j + 1) (by omega) (by omega))
      simp only [spec_siBroken.l0, hw, sh_at L j hlt]
      unfold shEq at hq
      rw [if_pos (by omega), if_pos (by omega), if_pos (by omega), hq, if_neg (by decide)]
    · refine Ev.step (f := fun _ => some 0) (fun k => ?_) (Ev.now _)
      simp only [spec_siBroken.l0, hw, sh_at L j hlt]
      unfold shEq at hq
      rw [if_pos (by omega), if_pos (by omega), if_pos (by omega), hq, if_pos rfl]
theorem impl_in_from (L : List S23) (hL : L.length ≤ 1000) (t i m r l : Int) (s : Bool) : ∀ (e j : Nat), L.length - j = e → j ≤ L.length →
    ∃ v : Int, decide (v ≥ 0) = shIn (L.drop j) t i m r l s ∧ Ev (fun k => impl_Shape_194.l0 k L (L.length : Int) (j : Int) t i m r l s) v
  | 0, j, he, hj => by
    refine ⟨-1, by rw [List.drop_eq_nil_of_le (by omega)]; rfl, ?_⟩
    refine Ev.step (f := fun _ => some (-1)) (fun k => ?_) (Ev.now _)
    simp only [impl_Shape_194.l0]
    rw [if_neg (by omega)]
  | e + 1, j, he, hj => by
    have hlt : j < L.length := by omega
    have hw : wrap64 ((j : Int) + 1) = ((j + 1 : Nat) : Int) := w64_succ (by omega)
    rw [shIn_cons L j hlt, shEq_comm]
    cases hq : shEq t i m r l s L[j].f0 L[j].f1 L[j].f2 L[j].f3 L[j].f4 L[j].f5
    · obtain ⟨v, hv, hE⟩ := impl_in_from L hL t i m r l s e (j + 1) (by omega) (by omega)
      refine ⟨v, by rw [hv, Bool.false_or], Ev.step (fun k => ?_) hE⟩
      simp only [impl_Shape_194.l0, hw, sh_at L j hlt]
      unfold shEq at hq
      rw [if_pos (by omega), if_pos (by omega), if_pos (by omega), hq, if_neg (by decide)]
    · refine ⟨(j : Int), by rw [Bool.true_or]; simp, Ev.step (f := fun _ => some (j : Int)) (fun k => ?_) (Ev.now _)⟩
      simp only [impl_Shape_194.l0, hw, sh_at L j hlt]
      unfold shEq at hq
      rw [if_pos (by omega), if_pos (by omega), if_pos (by omega), hq, if_pos rfl]
theorem impl_in_ev (L : List S23) (hL : L.length ≤ 1000) (t i m r l : Int) (s : Bool) : Ev (fun k => impl_Shape_169.f k L t i m r l s) (shIn L t i m r l s) := by
  obtain ⟨v, hv, hE⟩ := impl_in_from L hL t i m r l s _ 0 rfl (Nat.zero_le _)
  rw [List.drop_zero] at hv
  unfold impl_Shape_169.f impl_Shape_194.f
  rw [← hv]
  exact Ev.bind hE (Ev.now _)
/-- The same movement, or the mirrored one? -/
def mvFit (b : ByteArray) (n : Int) (b' : ByteArray) (n' : Int) : Bool := decide ((mvSt b n).toList = (mvSt b' n').toList) || decide ((mvSt (mirS b) n).toList = (mvSt b' n').toList)
/-- The same orientation, or the mirrored one? -/
def orFit (p f p' f' : Int) : Bool := (p == p' && f == f') || (p == orSw p' && f == orSw f')
/-- What breaks a rule. -/
def brV (t i m r l : Int) (s : Bool) (p f : Int) (b : ByteArray) (n : Int) (t' i' m' r' l' : Int) (s' : Bool) (p' f' : Int) (b' : ByteArray) (n' : Int) : Int :=
  if b'.toList = ([] : List UInt8) then (if shEq t i m r l s t' i' m' r' l' s' = true then 0 else if shIn plainL t' i' m' r' l' s' = true then 0 else 4)
  else if b.toList = ([] : List UInt8) then 3
  else if shEq t i m r l s t' i' m' r' l' s' = true then (if orFit p f p' f' = true then (if mvFit b n b' n' = true then 0 else 3) else 2) else 1
section
variable (t i m r l : Int) (s : Bool) (p f g d : Int) (c : Bool) (b : ByteArray) (n : Int) (t' i' m' r' l' : Int) (s' : Bool) (p' f' g' d' : Int) (c' : Bool) (b' : ByteArray) (n' : Int)
theorem spec_j1_ev (x : Bool) (hb : b.size ≤ 6) (hn : 0 ≤ n ∧ n ≤ 3) (hb' : b'.size ≤ 6) (hn' : 0 ≤ n' ∧ n' ≤ 3) :
    Ev (fun k => spec_siBroken.j1 k x t i m r l s p f g d c b n t' i' m' r' l' s' p' f' g' d' c' b' n') (if x = true then 2 else if mvFit b n b' n' = true then 0 else 3) := by
  cases x
  · refine Ev.step (fun k => by simp only [spec_siBroken.j1, Bool.false_eq_true, if_false]; exact rfl) ?_
    simp only [Bool.false_eq_true, if_false]
    refine Ev.bind (spec_all_ev hb hn.1 hn.2) (Ev.bind (spec_all_ev hb' hn'.1 hn'.2) ?_)
    unfold mvFit
    by_cases h : (mvSt b n).toList = (mvSt b' n').toList
    · simp only [if_pos h, decide_eq_true h, Bool.true_or, if_true]; exact Ev.now _
    · simp only [if_neg h, decide_eq_false h, Bool.false_or]
      refine Ev.bind (spec_mirror_ev b n (by omega)) (Ev.bind (spec_all_ev (s := mirS b) (by rw [mirS_size]; exact hb) hn.1 hn.2) (Ev.bind (spec_all_ev hb' hn'.1 hn'.2) ?_))
      by_cases h2 : (mvSt (mirS b) n).toList = (mvSt b' n').toList
      · simp only [if_pos h2, decide_eq_true h2, if_true]; exact Ev.now _
      · simp only [if_neg h2, decide_eq_false h2, Bool.false_eq_true, if_false]; exact Ev.now _
  · refine Ev.step (f := fun _ => some 2) (fun k => by simp only [spec_siBroken.j1, if_true]) ?_
    simp only [if_true]; exact Ev.now _
theorem spec_broken_ev (hb : b.size ≤ 6) (hn : 0 ≤ n ∧ n ≤ 3) (hb' : b'.size ≤ 6) (hn' : 0 ≤ n' ∧ n' ≤ 3) :
    Ev (fun k => spec_siBroken.f k t i m r l s p f g d c b n t' i' m' r' l' s' p' f' g' d' c' b' n') (brV t i m r l s p f b n t' i' m' r' l' s' p' f' b' n') := by
  unfold spec_siBroken.f brV
  by_cases h0 : b'.toList = ([] : List UInt8)
  · simp only [if_pos h0]
    show Ev (fun k => if shEq t i m r l s t' i' m' r' l' s' = true then some 0 else _) _
    cases shEq t i m r l s t' i' m' r' l' s'
    · simp only [Bool.false_eq_true, if_false]
      exact Ev.bind spec_plain_ev (spec_in_from plainL (by decide) t' i' m' r' l' s' p' f' g' d' c' b' n' _ 0 rfl (Nat.zero_le _))
    · simp only [if_true]; exact Ev.now _
  · simp only [if_neg h0]
    by_cases h1 : b.toList = ([] : List UInt8)
    · simp only [if_pos h1]; exact Ev.now _
    · simp only [if_neg h1]
      cases h5 : shEq t i m r l s t' i' m' r' l' s'
      · have e5 : (t == t' && (i == i' && (m == m' && (r == r' && (l == l' && (s == s')))))) = false := h5
        simp only [e5, Bool.false_eq_true, if_false, Bool.not_false, if_true]; exact Ev.now _
      · have e5 : (t == t' && (i == i' && (m == m' && (r == r' && (l == l' && (s == s')))))) = true := h5
        simp only [e5, Bool.not_true, Bool.false_eq_true, if_false, if_true, spec_or_mirror, Option.bind_some]
        unfold orFit
        cases h2 : (p == p' && f == f')
        · simp only [Bool.false_eq_true, if_false, Bool.false_or]
          have := spec_j1_ev t i m r l s p f g d c b n t' i' m' r' l' s' p' f' g' d' c' b' n' (!(p == orSw p' && f == orSw f')) hb hn hb' hn'
          cases h3 : (p == orSw p' && f == orSw f')
          · rw [h3] at this
            exact this
          · rw [h3] at this
            exact this
        · simp only [if_true, Bool.true_or]
          exact spec_j1_ev t i m r l s p f g d c b n t' i' m' r' l' s' p' f' g' d' c' b' n' false hb hn hb' hn'
theorem impl_moves : impl_Hand_moves.f t i m r l s p f g d c b n = some (!decide (b.toList = ([] : List UInt8))) := by
  unfold impl_Hand_moves.f
  first | rfl | (by_cases h : b.toList = ([] : List UInt8) <;> simp [h])
theorem impl_j0_ev (x : Bool) (hb : b.size ≤ 6) (hn : 0 ≤ n ∧ n ≤ 3) (hb' : b'.size ≤ 6) (hn' : 0 ≤ n' ∧ n' ≤ 3) :
    Ev (fun k => impl_keepRules.j0 k x t i m r l s p f g d c b n t' i' m' r' l' s' p' f' g' d' c' b' n') (!decide (b.toList = ([] : List UInt8)) && (shEq t i m r l s t' i' m' r' l' s' && (x && mvFit b n b' n'))) := by
  refine Ev.step (f := fun _ => some (!decide (b.toList = ([] : List UInt8)) && (shEq t i m r l s t' i' m' r' l' s' && (x && mvFit b n b' n')))) (fun k => ?_) (Ev.now _)
  simp only [impl_keepRules.j0, impl_all' hb hn.1 hn.2, impl_all' hb' hn'.1 hn'.2, impl_mirror b n (by omega), impl_all' (s := mirS b) (by rw [mirS_size]; exact hb) hn.1 hn.2, Option.bind_some, impl_moves]
  show (if _ then (if _ then (if shEq t i m r l s t' i' m' r' l' s' = true then _ else _) else _) else (if _ then (if shEq t i m r l s t' i' m' r' l' s' = true then _ else _) else _)) = _
  unfold mvFit
  have e2 : ((mvSt b' n').toList == (mvSt (mirS b) n).toList) = decide ((mvSt (mirS b) n).toList = (mvSt b' n').toList) := by
    rw [Bool.eq_iff_iff, beq_iff_eq, decide_eq_true_eq]; exact ⟨Eq.symm, Eq.symm⟩
  rw [e2]
  generalize decide ((mvSt (mirS b) n).toList = (mvSt b' n').toList) = P2
  by_cases h1 : (mvSt b n).toList = (mvSt b' n').toList
  · rw [if_pos h1.symm, decide_eq_true h1]
    by_cases h2 : b.toList = ([] : List UInt8) <;> cases shEq t i m r l s t' i' m' r' l' s' <;> cases x <;> simp [h2]
  · rw [if_neg (fun e => h1 e.symm), decide_eq_false h1]
    by_cases h2 : b.toList = ([] : List UInt8) <;> cases shEq t i m r l s t' i' m' r' l' s' <;> cases x <;> cases P2 <;> simp [h2]
theorem impl_keep_ev (hb : b.size ≤ 6) (hn : 0 ≤ n ∧ n ≤ 3) (hb' : b'.size ≤ 6) (hn' : 0 ≤ n' ∧ n' ≤ 3) :
    Ev (fun k => impl_keepRules.f k t i m r l s p f g d c b n t' i' m' r' l' s' p' f' g' d' c' b' n') (brV t i m r l s p f b n t' i' m' r' l' s' p' f' b' n' == 0) := by
  unfold impl_keepRules.f brV
  simp only [impl_moves, Option.bind_some]
  by_cases h0 : b'.toList = ([] : List UInt8)
  · simp only [decide_eq_true h0, Bool.not_true, Bool.false_eq_true, if_false, if_pos h0]
    show Ev (fun k => if shEq t' i' m' r' l' s' t i m r l s = true then _ else _) _
    rw [shEq_comm t' i' m' r' l' s']
    cases shEq t i m r l s t' i' m' r' l' s'
    · simp only [Bool.false_eq_true, if_false]
      refine Ev.bind impl_plain_ev (Ev.bind (impl_in_ev plainL (by decide) t' i' m' r' l' s') ?_)
      cases shIn plainL t' i' m' r' l' s' <;> exact Ev.now _
    · simp only [if_true]; exact Ev.now _
  · simp only [decide_eq_false h0, Bool.not_false, if_true, if_neg h0, impl_or_mirror, Option.bind_some]
    have hJ := fun x => impl_j0_ev t i m r l s p f g d c b n t' i' m' r' l' s' p' f' g' d' c' b' n' x hb hn hb' hn'
    have fin : ∀ x, x = orFit p f p' f' → (!decide (b.toList = ([] : List UInt8)) && (shEq t i m r l s t' i' m' r' l' s' && (x && mvFit b n b' n'))) = ((if b.toList = ([] : List UInt8) then (3 : Int) else if shEq t i m r l s t' i' m' r' l' s' = true then (if orFit p f p' f' = true then (if mvFit b n b' n' = true then 0 else 3) else 2) else 1) == 0) := by
      rintro x rfl
      by_cases h1 : b.toList = ([] : List UInt8)
      · simp only [decide_eq_true h1, if_pos h1]; rfl
      · simp only [decide_eq_false h1, if_neg h1]
        cases shEq t i m r l s t' i' m' r' l' s' <;> cases orFit p f p' f' <;> cases mvFit b n b' n' <;> rfl
    unfold orFit at fin
    cases h2 : (p' == p && f' == f)
    · simp only [Bool.false_eq_true, if_false]
      have e : (p' == orSw p && f' == orSw f) = ((p == p' && f == f') || (p == orSw p' && f == orSw f')) := by
        rw [orSw_eq p' p, orSw_eq f' f, BEq.comm (a := p) (b := p'), BEq.comm (a := f) (b := f'), h2, Bool.false_or]
      have := hJ (p' == orSw p && f' == orSw f)
      rw [fin _ e] at this
      exact this
    · simp only [if_true]
      have e : true = ((p == p' && f == f') || (p == orSw p' && f == orSw f')) := by
        rw [BEq.comm (a := p) (b := p'), BEq.comm (a := f) (b := f'), h2, Bool.true_or]
      have := hJ true
      rw [fin _ e] at this
      exact this
end
end Go.Proofs.YtcicpmhcmlfhbaaGreatDoor.PA

namespace Go.Proofs.YtcicpmhcmlfhbaaGreatDoor.PA
open Go.RowKit Go.Proofs.YtcicpmhcmlfhbaaGreatDoorW.PrintWords Go.Proofs.YtcicpmhcmlfhbaaGreatDoorW.PrintLast Go.Proofs.YtcicpmhcmlfhbaaGreatDoorW.PrintMore
theorem hdOK_mv {t i m r l : Int} {s : Bool} {p f g d : Int} {c : Bool} {b : ByteArray} {n : Int} (h : hdOK t i m r l s p f g d c b n = true) : b.size ≤ 6 ∧ 0 ≤ n ∧ n ≤ 3 := by
  unfold hdOK at h
  simp only [Bool.and_eq_true] at h
  obtain ⟨h1, h2, h3, _⟩ := mvOK_parts h.2.2.2
  exact ⟨h1, by omega, h3⟩
end Go.Proofs.YtcicpmhcmlfhbaaGreatDoor.PA

namespace Go.Proofs.YtcicpmhcmlfhbaaGreatDoor.PA
open Go.RowKit Go.Proofs.YtcicpmhcmlfhbaaGreatDoorW.PrintWords Go.Proofs.YtcicpmhcmlfhbaaGreatDoorW.PrintLast Go.Proofs.YtcicpmhcmlfhbaaGreatDoorW.PrintMore
set_option linter.unusedVariables false
set_option linter.unusedSimpArgs false
section
variable (t i m r l : Int) (s : Bool) (p f g d : Int) (c : Bool) (b : ByteArray) (n : Int) (w : Bool) (t' i' m' r' l' : Int) (s' : Bool) (p' f' g' d' : Int) (c' : Bool) (b' : ByteArray) (n' : Int)
/-- No hand. -/
def noHd : Bool := ((t' == 0 && (i' == 0 && (m' == 0 && (r' == 0 && (l' == 0 && (!s')))))) && ((p' == 0 && (f' == 0)) && ((g' == 0 && (d' == 0 && (!c'))) && ((b'.toList == ([] : List UInt8) && (n' == 0))))))
theorem nilL : (⟨#[]⟩ : ByteArray).toList = [] := by unfold ByteArray.toList ByteArray.toList.loop; rfl
theorem noHd_raw : ((t' == 0 && (i' == 0 && (m' == 0 && (r' == 0 && (l' == 0 && (s' == false)))))) && ((p' == 0 && (f' == 0)) && ((g' == 0 && (d' == 0 && (c' == false))) && ((b'.toList == (⟨#[]⟩ : ByteArray).toList && (n' == 0)))))) = noHd t' i' m' r' l' s' p' f' g' d' c' b' n' := by
  unfold noHd
  rw [nilL, show (s' == false) = !s' by cases s' <;> rfl, show (c' == false) = !c' by cases c' <;> rfl]
/-- A valid sign. -/
def sgOK : Bool := hdOK t i m r l s p f g d c b n && (if w = true then (hdOK t' i' m' r' l' s' p' f' g' d' c' b' n' && (brV t i m r l s p f b n t' i' m' r' l' s' p' f' b' n' == 0)) else noHd t' i' m' r' l' s' p' f' g' d' c' b' n')
theorem spec_good_ev (hb : b.size ≤ 1048576) (hb' : b'.size ≤ 1048576) : Ev (fun k => spec_siGood.f k t i m r l s p f g d c b n w t' i' m' r' l' s' p' f' g' d' c' b' n') (sgOK t i m r l s p f g d c b n w t' i' m' r' l' s' p' f' g' d' c' b' n') := by
  unfold spec_siGood.f sgOK
  refine Ev.bind (spec_hand_ev t i m r l s p f g d c b n hb) ?_
  cases h : hdOK t i m r l s p f g d c b n
  · simp only [Bool.false_eq_true, if_false, Bool.false_and]; exact Ev.now _
  · simp only [if_true, Bool.true_and]
    cases w
    · simp only [Bool.false_eq_true, if_false, noHd_raw]; exact Ev.now _
    · simp only [if_true]
      refine Ev.bind (spec_hand_ev t' i' m' r' l' s' p' f' g' d' c' b' n' hb') ?_
      cases h' : hdOK t' i' m' r' l' s' p' f' g' d' c' b' n'
      · simp only [Bool.false_eq_true, if_false, Bool.false_and]; exact Ev.now _
      · simp only [if_true, Bool.true_and]
        have h1 := hdOK_mv h
        have h2 := hdOK_mv h'
        exact Ev.bind (spec_broken_ev t i m r l s p f g d c b n t' i' m' r' l' s' p' f' g' d' c' b' n' h1.1 h1.2 h2.1 h2.2) (Ev.now _)
theorem impl_sign_ev (hb : b.size ≤ 1048576) (hb' : b'.size ≤ 1048576) : Ev (fun k => impl_IsSign.f k t i m r l s p f g d c b n w t' i' m' r' l' s' p' f' g' d' c' b' n') (sgOK t i m r l s p f g d c b n w t' i' m' r' l' s' p' f' g' d' c' b' n') := by
  unfold impl_IsSign.f sgOK
  refine Ev.bind (impl_hand_ev t i m r l s p f g d c b n hb) ?_
  cases h : hdOK t i m r l s p f g d c b n
  · simp only [Bool.false_eq_true, if_false, Bool.false_and]; exact Ev.now _
  · simp only [if_true, Bool.true_and]
    cases w
    · simp only [Bool.false_eq_true, if_false, noHd_raw]; exact Ev.now _
    · simp only [if_true]
      refine Ev.bind (impl_hand_ev t' i' m' r' l' s' p' f' g' d' c' b' n' hb') ?_
      cases h' : hdOK t' i' m' r' l' s' p' f' g' d' c' b' n'
      · simp only [Bool.false_eq_true, if_false, Bool.false_and]; exact Ev.now _
      · simp only [if_true, Bool.true_and]
        have h1 := hdOK_mv h
        have h2 := hdOK_mv h'
        exact Ev.bind (impl_keep_ev t i m r l s p f g d c b n t' i' m' r' l' s' p' f' g' d' c' b' n' h1.1 h1.2 h2.1 h2.2) (Ev.now _)
end
end Go.Proofs.YtcicpmhcmlfhbaaGreatDoor.PA

namespace Go.Proofs.YtcicpmhcmlfhbaaGreatDoor.PA
open Go.RowKit Go.Proofs.YtcicpmhcmlfhbaaGreatDoorW.PrintWords Go.Proofs.YtcicpmhcmlfhbaaGreatDoorW.PrintLast Go.Proofs.YtcicpmhcmlfhbaaGreatDoorW.PrintMore
set_option linter.unusedVariables false
set_option linter.unusedSimpArgs false
section
variable (t i m r l : Int) (s : Bool) (p f g d : Int) (c : Bool) (b : ByteArray) (n : Int) (w : Bool) (t' i' m' r' l' : Int) (s' : Bool) (p' f' g' d' : Int) (c' : Bool) (b' : ByteArray) (n' : Int)
theorem to_hand : laws_toHand.f t i m r l s p f g d c b n = some (t, i, m, r, l, s, p, f, g, d, c, b, n) := by
  simp only [laws_toHand.f, laws_toShape.f, laws_toOrient.f, laws_toPlace.f, laws_toMove.f, Option.bind_some]
theorem sz_hand (a : Int) (h0 : 0 ≤ a) (h1 : a ≤ 1048576) (hb : b.size ≤ 9223372036854775807) : laws_szHand.f t i m r l s p f g d c b n a = some (if (b.size : Int) ≤ a then a - (b.size : Int) else -1) := by
  by_cases h : (b.size : Int) ≤ a
  · rw [if_pos h]
    simp only [laws_szHand.f, szMove_small b n a hb h0 h1 h, Option.bind_some]
    first | rw [if_neg (by omega)] | rfl
  · rw [if_neg h]
    simp only [laws_szHand.f, szMove_big b n a hb h0 h1 (by omega), Option.bind_some]
    first | rw [if_pos (by omega)] | rfl
end
end Go.Proofs.YtcicpmhcmlfhbaaGreatDoor.PA

namespace Go.Proofs.YtcicpmhcmlfhbaaGreatDoor.PA
open Go.RowKit Go.Proofs.YtcicpmhcmlfhbaaGreatDoorW.PrintWords Go.Proofs.YtcicpmhcmlfhbaaGreatDoorW.PrintLast Go.Proofs.YtcicpmhcmlfhbaaGreatDoorW.PrintMore
set_option linter.unusedVariables false
set_option linter.unusedSimpArgs false
section
variable (t i m r l : Int) (s : Bool) (p f g d : Int) (c : Bool) (b : ByteArray) (n : Int) (w : Bool) (t' i' m' r' l' : Int) (s' : Bool) (p' f' g' d' : Int) (c' : Bool) (b' : ByteArray) (n' : Int)
theorem to_sign : laws_toSign.f t i m r l s p f g d c b n w t' i' m' r' l' s' p' f' g' d' c' b' n' = some (t, i, m, r, l, s, p, f, g, d, c, b, n, w, t', i', m', r', l', s', p', f', g', d', c', b', n') := by
  simp only [laws_toSign.f, to_hand, Option.bind_some]
/-- Of a sign's size: too large, or both movements are small. -/
theorem sz_sign (a : Int) (h0 : 0 ≤ a) (h1 : a ≤ 1048576) (hb : b.size ≤ 9223372036854775807) (hb' : b'.size ≤ 9223372036854775807) :
    ∃ v, laws_szSign.f t i m r l s p f g d c b n w t' i' m' r' l' s' p' f' g' d' c' b' n' a = some v ∧ (v < 0 ∨ (0 ≤ v ∧ v ≤ 1048576 ∧ b.size ≤ 1048576 ∧ b'.size ≤ 1048576)) := by
  unfold laws_szSign.f
  rw [sz_hand t i m r l s p f g d c b n a h0 h1 hb]
  by_cases h : (b.size : Int) ≤ a
  · rw [if_pos h]
    simp only [Option.bind_some]
    rw [if_neg (by omega), sz_hand t' i' m' r' l' s' p' f' g' d' c' b' n' (a - (b.size : Int)) (by omega) (by omega) hb']
    by_cases h' : (b'.size : Int) ≤ a - (b.size : Int)
    · rw [if_pos h']
      simp only [Option.bind_some]
      rw [if_neg (by omega)]
      exact ⟨_, rfl, .inr ⟨by omega, by omega, by omega, by omega⟩⟩
    · rw [if_neg h']
      simp only [Option.bind_some]
      exact ⟨-1, by rw [if_pos (by omega)], .inl (by omega)⟩
  · rw [if_neg h]
    simp only [Option.bind_some]
    exact ⟨-1, by rw [if_pos (by omega)], .inl (by omega)⟩
end
end Go.Proofs.YtcicpmhcmlfhbaaGreatDoor.PA

namespace Go.Proofs.YtcicpmhcmlfhbaaGreatDoor.PA
open Go.RowKit Go.Proofs.YtcicpmhcmlfhbaaGreatDoorW.PrintWords Go.Proofs.YtcicpmhcmlfhbaaGreatDoorW.PrintLast Go.Proofs.YtcicpmhcmlfhbaaGreatDoorW.PrintMore
/-- Is it a constraint? -/
def kcOK (k v : Int) : Bool := decide (0 ≤ k ∧ k ≤ 4) && decide (0 ≤ v ∧ v ≤ icMost k)
theorem ru_good (k v : Int) : spec_ruGood.f k v = some (kcOK k v) := by
  unfold spec_ruGood.f kcOK
  simp only [in_val, Option.bind_some]
  by_cases hk : 0 ≤ k ∧ k ≤ 4
  · have hm : ∃ M, spec_ruMost.f k = some M ∧ icMost k = M ∧ (k = 3 → M = 3) := by
      have h5 : k = 0 ∨ k = 1 ∨ k = 2 ∨ k = 3 ∨ k = 4 := by omega
      rcases h5 with rfl | rfl | rfl | rfl | rfl
      · exact ⟨18, rfl, rfl, by decide⟩
      · exact ⟨9, rfl, rfl, by decide⟩
      · exact ⟨4, rfl, rfl, by decide⟩
      · exact ⟨3, rfl, rfl, by decide⟩
      · exact ⟨9, rfl, rfl, by decide⟩
    obtain ⟨M, e1, e2, e3⟩ := hm
    simp only [decide_eq_true hk, if_true, e1, e2, Option.bind_some, Bool.true_and]
    by_cases hv : 0 ≤ v ∧ v ≤ M
    · simp only [decide_eq_true hv, if_true]
      by_cases h3 : k = 3
      · rw [if_pos h3, decide_eq_true (by have := e3 h3; omega)]
      · rw [if_neg h3]
    · simp only [decide_eq_false hv, Bool.false_eq_true, if_false]
  · simp only [decide_eq_false hk, Bool.false_eq_true, if_false, Bool.false_and]
theorem op_from (L : List Int) (hL : L.length ≤ 1000) : ∀ (e j : Nat) (x : Int), L.length - j = e → j ≤ L.length → 0 ≤ x → x ≤ (j : Int) →
    Ev (fun k => spec_ruOpen.l0 k x L (L.length : Int) (j : Int)) (x + thICnt (L.drop j))
  | 0, j, x, he, hj, h0, h1 => by
    rw [List.drop_eq_nil_of_le (by omega)]
    refine Ev.step (f := fun _ => some (x + thICnt [])) (fun k => ?_) (Ev.now _)
    simp only [spec_ruOpen.l0]
    rw [if_neg (by omega)]
    simp [thICnt]
  | e + 1, j, x, he, hj, h0, h1 => by
    have hlt : j < L.length := by omega
    have hwj : wrap64 ((j : Int) + 1) = ((j + 1 : Nat) : Int) := w64_succ (by omega)
    have hwx : wrap64 (x + 1) = x + 1 := w64_i (by omega) (by omega)
    have hr : rd L (j : Int) = L[j] := rd_at L j hlt
    have hc : thICnt (L.drop j) = (if L[j] = 0 then 1 else 0) + thICnt (L.drop (j + 1)) := by
      unfold thICnt
      rw [List.drop_eq_getElem_cons hlt, List.filter_cons]
      by_cases h : L[j] = 0 <;> simp [h] <;> omega
    rw [hc]
    by_cases hq : L[j] = 0
    · have ih := op_from L hL e (j + 1) (x + 1) (by omega) (by omega) (by omega) (by omega)
      rw [if_pos hq, show x + (1 + thICnt (L.drop (j + 1))) = x + 1 + thICnt (L.drop (j + 1)) by omega]
      refine Ev.step (fun k => ?_) ih
      simp only [spec_ruOpen.l0, hwj, hwx, hr]
      rw [if_pos (by omega), if_pos (by omega), if_pos (by omega), if_pos hq]
    · have ih := op_from L hL e (j + 1) x (by omega) (by omega) h0 (by omega)
      rw [if_neg hq, Int.zero_add]
      refine Ev.step (fun k => ?_) ih
      simp only [spec_ruOpen.l0, hwj, hr]
      rw [if_pos (by omega), if_pos (by omega), if_pos (by omega), if_neg hq]
section
variable (t i m r l : Int) (s : Bool) (p f g d : Int) (c : Bool) (b : ByteArray) (n : Int) (w : Bool) (t' i' m' r' l' : Int) (s' : Bool) (p' f' g' d' : Int) (c' : Bool) (b' : ByteArray) (n' : Int)
/-- The kind. -/
def sgKind : Int := if w = true then (if b'.toList = ([] : List UInt8) then (if shEq t i m r l s t' i' m' r' l' s' = true then 2 else 3) else 1) else 0
theorem spec_kind : spec_siKind.f t i m r l s p f g d c b n w t' i' m' r' l' s' p' f' g' d' c' b' n' = some (sgKind t i m r l s w t' i' m' r' l' s' b') := by
  unfold spec_siKind.f sgKind
  show (if w = true then (if b'.toList = ([] : List UInt8) then (if shEq t i m r l s t' i' m' r' l' s' = true then _ else _) else _) else _) = _
  split <;> (try split) <;> (try split) <;> rfl
theorem impl_kind : impl_Sign_kind.f t i m r l s p f g d c b n w t' i' m' r' l' s' p' f' g' d' c' b' n' = some (sgKind t i m r l s w t' i' m' r' l' s' b') := by
  unfold impl_Sign_kind.f sgKind
  simp only [impl_moves, Option.bind_some]
  show (if w = true then (if _ then _ else (if shEq t' i' m' r' l' s' t i m r l s = true then _ else _)) else _) = _
  rw [shEq_comm t' i' m' r' l' s']
  cases w <;> by_cases h : b'.toList = ([] : List UInt8) <;> cases shEq t i m r l s t' i' m' r' l' s' <;> simp [h]
/-- The steps of the hand that has more. -/
def sgSteps : Int := if ((mvSt b n).size : Int) > ((mvSt b' n').size : Int) then ((mvSt b n).size : Int) else ((mvSt b' n').size : Int)
theorem sg_mv (h : sgOK t i m r l s p f g d c b n w t' i' m' r' l' s' p' f' g' d' c' b' n' = true) : (b.size ≤ 6 ∧ 0 ≤ n ∧ n ≤ 3) ∧ (b'.size ≤ 6 ∧ 0 ≤ n' ∧ n' ≤ 3) := by
  unfold sgOK at h
  rw [Bool.and_eq_true] at h
  refine ⟨hdOK_mv h.1, ?_⟩
  have h2 := h.2
  cases w
  · rw [if_neg (by decide)] at h2
    unfold noHd at h2
    simp only [Bool.and_eq_true, beq_iff_eq] at h2
    obtain ⟨_, _, _, e, rfl⟩ := h2
    have : b'.size = 0 := by
      rw [← bs_list] at e
      show b'.data.size = 0
      rw [← Array.length_toList, e]; rfl
    exact ⟨by omega, by omega, by omega⟩
  · rw [if_pos rfl, Bool.and_eq_true] at h2
    exact hdOK_mv h2.1
theorem ru_open : Ev (fun k => spec_ruOpen.f k t i m r l s p f g d c b n w t' i' m' r' l' s' p' f' g' d' c' b' n') (thICnt [i, m, r, l]) := by
  unfold spec_ruOpen.f spec_shFingers.f
  have := op_from [i, m, r, l] (by simp) _ 0 0 rfl (Nat.zero_le _) (by omega) (by omega)
  rw [List.drop_zero, Int.zero_add] at this
  exact this
/-- Does the sign keep it? -/
def kcV (k v : Int) : Bool := if k = 0 then decide (sgSteps b n b' n' ≤ v) else (if k = 1 then (if g = v then false else (if w = true then (g' != v) else true)) else (if k = 2 then decide (thICnt [i, m, r, l] ≥ v) else (if k = 3 then (sgKind t i m r l s w t' i' m' r' l' s' b' != v) else decide (g ≤ v))))
theorem spec_keeps (h : sgOK t i m r l s p f g d c b n w t' i' m' r' l' s' p' f' g' d' c' b' n' = true) (k v : Int) : Ev (fun q => spec_ruKeeps.f q t i m r l s p f g d c b n w t' i' m' r' l' s' p' f' g' d' c' b' n' k v) (kcV t i m r l s g b n w t' i' m' r' l' s' g' b' n' k v) := by
  unfold spec_ruKeeps.f kcV
  by_cases k0 : k = 0
  · simp only [if_pos k0]
    have hm := sg_mv t i m r l s p f g d c b n w t' i' m' r' l' s' p' f' g' d' c' b' n' h
    have hst : Ev (fun q => spec_ruSteps.f q t i m r l s p f g d c b n w t' i' m' r' l' s' p' f' g' d' c' b' n') (sgSteps b n b' n') := by
      unfold spec_ruSteps.f
      refine Ev.bind (spec_all_ev hm.1.1 hm.1.2.1 hm.1.2.2) (Ev.bind (spec_all_ev hm.2.1 hm.2.2.1 hm.2.2.2) ?_)
      unfold spec_l1Most.f sgSteps
      split <;> exact Ev.now _
    exact Ev.bind hst (Ev.now _)
  simp only [if_neg k0]
  by_cases k1 : k = 1
  · simp only [if_pos k1]
    by_cases hg : g = v
    · simp only [if_pos hg]; exact Ev.now _
    · simp only [if_neg hg]; cases w <;> exact Ev.now _
  simp only [if_neg k1]
  by_cases k2 : k = 2
  · simp only [if_pos k2]
    exact Ev.bind (ru_open t i m r l s p f g d c b n w t' i' m' r' l' s' p' f' g' d' c' b' n') (Ev.now _)
  simp only [if_neg k2]
  by_cases k3 : k = 3
  · simp only [if_pos k3, spec_kind, Option.bind_some]; exact Ev.now _
  simp only [if_neg k3]
  exact Ev.now _
theorem impl_keeps (h : sgOK t i m r l s p f g d c b n w t' i' m' r' l' s' p' f' g' d' c' b' n' = true) (k v : Int) : impl_Constraint_keptBy.f k v t i m r l s p f g d c b n w t' i' m' r' l' s' p' f' g' d' c' b' n' = some (kcV t i m r l s g b n w t' i' m' r' l' s' g' b' n' k v) := by
  unfold impl_Constraint_keptBy.f kcV
  by_cases k0 : k = 0
  · simp only [if_pos k0]
    have hm := sg_mv t i m r l s p f g d c b n w t' i' m' r' l' s' p' f' g' d' c' b' n' h
    simp only [impl_Sign_steps.f, impl_all' hm.1.1 hm.1.2.1 hm.1.2.2, impl_all' hm.2.1 hm.2.2.1 hm.2.2.2, Option.bind_some]
    have e : mx ((mvSt b n).size : Int) ((mvSt b' n').size : Int) = sgSteps b n b' n' := by unfold mx sgSteps; split <;> split <;> omega
    rw [e]
  simp only [if_neg k0]
  by_cases k1 : k = 1
  · simp only [if_pos k1]
    by_cases hg : g = v
    · simp only [if_pos hg]
    · simp only [if_neg hg]; cases w <;> rfl
  simp only [if_neg k1]
  by_cases k2 : k = 2
  · simp only [if_pos k2]
    rfl
  simp only [if_neg k2]
  by_cases k3 : k = 3
  · simp only [if_pos k3, impl_kind, Option.bind_some]
  simp only [if_neg k3]
end
end Go.Proofs.YtcicpmhcmlfhbaaGreatDoor.PA

namespace Go.Proofs.YtcicpmhcmlfhbaaGreatDoor.PA
open Go.RowKit Go.Proofs.YtcicpmhcmlfhbaaGreatDoorW.PrintWords Go.Proofs.YtcicpmhcmlfhbaaGreatDoorW.PrintLast Go.Proofs.YtcicpmhcmlfhbaaGreatDoorW.PrintMore
set_option linter.unusedVariables false
set_option linter.unusedSimpArgs false
theorem mk64 {x : Int} (h0 : -9223372036854775808 ≤ x) (h1 : x ≤ 9223372036854775807) : wrap64 x = x := by
  unfold wrap64; omega
theorem mkRd (x : List Int) (i : Nat) (h : i < x.length) : rd x (i : Int) = x[i] := by
  unfold rd
  rw [List.getD_eq_getElem?_getD]
  simp [h]
theorem eqI_from (x : List Int) (hx : x.length ≤ 1048576) : ∀ (d j : Nat), x.length - j = d → j ≤ x.length → Ev (fun k => laws_eqIntS.l0 k x x (j : Int)) true := by
  intro d
  induction d with
  | zero =>
    intro j hd hj
    refine Ev.step (f := fun _ => some true) (fun k => ?_) (Ev.now _)
    simp only [laws_eqIntS.l0]
    rw [if_neg (by omega)]
  | succ d ih =>
    intro j hd hj
    refine Ev.step (fun k => ?_) (ih (j + 1) (by omega) (by omega))
    simp only [laws_eqIntS.l0, if_true]
    rw [if_pos (by omega), if_pos (by omega), if_pos (by omega), if_pos (by omega), if_pos (by omega), mk64 (by omega) (by omega)]
    rfl
theorem eqI_ev (x : List Int) (hx : x.length ≤ 1048576) : Ev (fun k => laws_eqIntS.f k x x) true := by
  unfold laws_eqIntS.f
  simp only [if_true]
  exact eqI_from x hx _ 0 rfl (Nat.zero_le _)
/-- The marks 1, 2, .. -/
def mkL (n : Nat) : List Int := (List.range n).map fun (i : Nat) => ((i : Int) + 1 : Int)
theorem mkL_at {n i : Nat} (h : i < n) : (mkL n)[i]? = some ((i : Int) + 1) := by
  simp [mkL, h]
theorem mkL_len (n : Nat) : (mkL n).length = n := by simp [mkL]
theorem markI_from : ∀ (d j : Nat) (x : List Int), x.length ≤ 1048576 → x.length - j = d → j ≤ x.length → (∀ i, i < j → x[i]? = some ((i : Int) + 1)) → Ev (fun k => laws_markIntS.l0 k x ((j : Int) + 1) (j : Int)) ((x.length : Int) + 1, mkL x.length) := by
  intro d
  induction d with
  | zero =>
    intro j x hx hd hj h
    obtain rfl : j = x.length := by omega
    have e : mkL x.length = x := by
      apply List.ext_getElem?
      intro i
      by_cases hi : i < x.length
      · rw [mkL_at hi, h i hi]
      · rw [List.getElem?_eq_none (by rw [mkL_len]; omega), List.getElem?_eq_none (by omega)]
    rw [e]
    refine Ev.step (f := fun _ => some ((x.length : Int) + 1, x)) (fun k => ?_) (Ev.now _)
    simp only [laws_markIntS.l0]
    rw [if_neg (by omega)]
  | succ d ih =>
    intro j x hx hd hj h
    have := ih (j + 1) (x.set j ((j : Int) + 1)) (by rw [List.length_set]; exact hx) (by rw [List.length_set]; omega) (by rw [List.length_set]; omega) (fun i hi => by
      by_cases e : i = j
      · subst e; rw [List.getElem?_set_self (by omega)]
      · rw [List.getElem?_set_ne (by omega)]; exact h i (by omega))
    rw [List.length_set] at this
    refine Ev.step (fun k => ?_) this
    simp only [laws_markIntS.l0]
    rw [if_pos (by omega), if_pos (by omega), if_pos (by omega), mk64 (by omega) (by omega), mk64 (by omega) (by omega), Int.toNat_natCast]
    rfl
theorem markI_ev (x : List Int) (hx : x.length ≤ 1048576) : Ev (fun k => laws_markIntS.f k x 1) ((x.length : Int) + 1, mkL x.length) := by
  unfold laws_markIntS.f
  exact markI_from _ 0 x hx rfl (Nat.zero_le _) (fun i hi => absurd hi (by omega))
theorem heldI_from (n : Nat) (hn : n ≤ 1048576) : ∀ (d j : Nat), n - j = d → j ≤ n → Ev (fun k => laws_heldIntS.l0 k (mkL n) ((j : Int) + 1) (j : Int)) ((n : Int) + 1) := by
  intro d
  induction d with
  | zero =>
    intro j hd hj
    obtain rfl : j = n := by omega
    refine Ev.step (f := fun _ => some ((j : Int) + 1)) (fun k => ?_) (Ev.now _)
    simp only [laws_heldIntS.l0, mkL_len]
    rw [if_neg (by omega)]
  | succ d ih =>
    intro j hd hj
    have hlt : j < n := by omega
    have e : rd (mkL n) (j : Int) = (j : Int) + 1 := by
      rw [mkRd _ j (by rw [mkL_len]; exact hlt)]
      have := mkL_at hlt
      rw [List.getElem?_eq_getElem (by rw [mkL_len]; exact hlt)] at this
      exact Option.some.inj this
    refine Ev.step (fun k => ?_) (ih (j + 1) (by omega) (by omega))
    simp only [laws_heldIntS.l0, mkL_len]
    rw [if_pos (by omega), if_pos (by omega), if_pos (by omega), e, if_pos rfl, mk64 (by omega) (by omega), mk64 (by omega) (by omega)]
    rfl
theorem heldI_ev (n : Nat) (hn : n ≤ 1048576) : Ev (fun k => laws_heldIntS.f k (mkL n) 1) ((n : Int) + 1) := by
  unfold laws_heldIntS.f
  exact heldI_from n hn _ 0 rfl (Nat.zero_le _)
end Go.Proofs.YtcicpmhcmlfhbaaGreatDoor.PA
