/- The plain law of movements: what is a movement, and all its steps, are the same for the program and the reference. -/
import Derived.Test.YtojfncpjgpklhaaGreatDoorPAx6
import Derived.Test.YtojfncpjgpklhaaGreatDoorPAx7
import Derived.Test.YtojfncpjgpklhaaGreatDoorBase
import Derived.Test.YtojfncpjgpklhaaGreatDoorPAx8
import Derived.Test.YtojfncpjgpklhaaGreatDoorPAx9
import Derived.Test.YtojfncpjgpklhaaGreatDoorPAx11
import Derived.Test.YtojfncpjgpklhaaGreatDoorPAx14
import Derived.Test.YtojfncpjgpklhaaGreatDoorPAx10
import Derived.Test.YtojfncpjgpklhaaGreatDoorPAx12
namespace Go.Proofs.YtojfncpjgpklhaaGreatDoor.PA
open Go.RowKit Go.Proofs.YtojfncpjgpklhaaGreatDoorW.PrintWords Go.Proofs.YtojfncpjgpklhaaGreatDoorW.PrintLast Go.Proofs.YtojfncpjgpklhaaGreatDoorW.PrintMore
set_option linter.unusedVariables false
set_option linter.unusedSimpArgs false

theorem w64_i {x : Int} (h0 : -9223372036854775808 ≤ x) (h1 : x ≤ 9223372036854775807) : wrap64 x = x := by
  unfold wrap64; omega
theorem w64_succ {i : Nat} (h : i < 9223372036854775807) : wrap64 ((i : Int) + 1) = ((i + 1 : Nat) : Int) := by
  rw [w64_i (by omega) (by omega)]; omega

/-- The letters of the directions. -/
def dirL : List UInt8 := [117, 100, 108, 114, 102, 98]
def dirIdx (x : Int) : Int := Lib.indexByte dirL x.toNat.toUInt8
theorem spec_idx : ∀ x : Fin 256, spec_mvIndex.f 8 (x.val : Int) = some (dirIdx (x.val : Int)) := by
  decide +kernel
theorem spec_mvIndex_ev (s : ByteArray) (i : Int) : Ev (fun k => spec_mvIndex.f k (bt s i)) (dirIdx (bt s i)) := by
  have h := bt_range s i
  have := spec_idx ⟨(bt s i).toNat, by omega⟩
  simp only [] at this
  rw [show (((bt s i).toNat : Nat) : Int) = bt s i by omega] at this
  exact Ev.of (fun k => spec_mvIndex.mono _ k) this
/-- Are all letters from i on directions? -/
def dirsFrom (s : ByteArray) (i : Nat) : Bool := (List.range' i (s.size - i)).all fun j => decide (0 ≤ dirIdx (bt s (j : Int)))
theorem dirsFrom_end (s : ByteArray) (i : Nat) (h : s.size ≤ i) : dirsFrom s i = true := by
  unfold dirsFrom; rw [show s.size - i = 0 by omega]; rfl
theorem dirsFrom_step (s : ByteArray) (i : Nat) (h : i < s.size) : dirsFrom s i = (decide (0 ≤ dirIdx (bt s (i : Int))) && dirsFrom s (i + 1)) := by
  unfold dirsFrom
  rw [show s.size - i = (s.size - (i + 1)) + 1 by omega, List.range'_succ, List.all_cons]
theorem spec_steps_from (s : ByteArray) (hs : s.size < 9223372036854775807) : ∀ (d i : Nat), s.size - i = d → i ≤ s.size → Ev (fun k => spec_mvSteps.l0 k s (i : Int)) (dirsFrom s i) := by
  intro d
  induction d with
  | zero =>
    intro i hd hi
    refine ⟨1, fun k hk => ?_⟩
    obtain ⟨k, rfl⟩ : ∃ m, k = m + 1 := ⟨k - 1, by omega⟩
    simp only [spec_mvSteps.l0]
    rw [if_neg (by omega), dirsFrom_end s i (by omega)]
  | succ d ih =>
    intro i hd hi
    have hlt : i < s.size := by omega
    refine Ev.step (f := fun k => (spec_mvIndex.f k (bt s (i : Int))).bind fun t => if t < 0 then some false else spec_mvSteps.l0 k s ((i + 1 : Nat) : Int)) (fun k => ?_) ?_
    · simp only [spec_mvSteps.l0]
      rw [if_pos (by omega), if_pos (by omega), if_pos (by omega), w64_succ (by omega)]
    · refine Ev.bind (spec_mvIndex_ev s i) ?_
      rw [dirsFrom_step s i hlt]
      by_cases h : 0 ≤ dirIdx (bt s (i : Int))
      · rw [decide_eq_true h, Bool.true_and]
        exact Ev.congr (fun k => by rw [if_neg (by omega)]) (ih (i + 1) (by omega) (by omega))
      · rw [decide_eq_false h, Bool.false_and]
        exact Ev.congr (f := fun _ => some false) (fun k => by rw [if_pos (by omega)]) (Ev.now _)
theorem impl_steps_from (s : ByteArray) (hs : s.size < 9223372036854775807) : ∀ (d i : Nat), s.size - i = d → i ≤ s.size → Ev (fun k => impl_hasOnly.l0 k s ⟨#[117, 100, 108, 114, 102, 98]⟩ (s.size : Int) (i : Int)) (dirsFrom s i) := by
  intro d
  induction d with
  | zero =>
    intro i hd hi
    refine ⟨1, fun k hk => ?_⟩
    obtain ⟨k, rfl⟩ : ∃ m, k = m + 1 := ⟨k - 1, by omega⟩
    simp only [impl_hasOnly.l0]
    rw [if_neg (by omega), dirsFrom_end s i (by omega)]
  | succ d ih =>
    intro i hd hi
    have hlt : i < s.size := by omega
    refine Ev.step (f := fun k => if dirIdx (bt s (i : Int)) < 0 then some false else impl_hasOnly.l0 k s ⟨#[117, 100, 108, 114, 102, 98]⟩ (s.size : Int) ((i + 1 : Nat) : Int)) (fun k => ?_) ?_
    · simp only [impl_hasOnly.l0]
      rw [if_pos (by omega), if_pos (by omega), if_pos (by omega), w64_succ (by omega)]
      rfl
    · rw [dirsFrom_step s i hlt]
      by_cases h : 0 ≤ dirIdx (bt s (i : Int))
      · rw [decide_eq_true h, Bool.true_and]
        exact Ev.congr (fun k => by rw [if_neg (by omega)]) (ih (i + 1) (by omega) (by omega))
      · rw [decide_eq_false h, Bool.false_and]
        exact Ev.congr (f := fun _ => some false) (fun k => by rw [if_pos (by omega)]) (Ev.now _)
/-- A valid movement. -/
def mvOK (s : ByteArray) (n : Int) : Bool := decide (s.size ≤ 6) && (dirsFrom s 0 && (decide (1 ≤ n ∧ n ≤ 3) && (decide (¬ s.toList = []) || n == 1)))
theorem mvOK_ends {g : Nat → Option Bool} {s : ByteArray} {n : Int} (h : Ev g (dirsFrom s 0)) (w : Int → Int → Int → Option Bool) (hw : ∀ x, w x 1 3 = some (decide (1 ≤ x ∧ x ≤ 3))) :
    Ev (fun k => if (s.size : Int) ≤ 6 then ((g k).bind fun t178 => (if t178 = true then ((w n 1 3).bind fun t179 => (if t179 = true then (if s.toList = ([] : List UInt8) then (some (n == 1)) else (some true)) else (some false))) else (some false))) else (some false)) (mvOK s n) := by
  unfold mvOK
  by_cases h6 : s.size ≤ 6
  · rw [decide_eq_true h6, Bool.true_and]
    refine Ev.congr (fun k => if_pos (by omega)) (Ev.bind h ?_)
    cases dirsFrom s 0
    · exact Ev.now _
    · rw [hw]
      by_cases h13 : 1 ≤ n ∧ n ≤ 3
      · rw [decide_eq_true h13]
        by_cases he : s.toList = []
        · simp only [he, if_true, Option.bind_some, Bool.true_and, not_true_eq_false, decide_false, Bool.false_or]; exact Ev.now _
        · simp only [he, if_true, if_false, Option.bind_some, Bool.true_and, not_false_eq_true, decide_true, Bool.true_or]; exact Ev.now _
      · rw [decide_eq_false h13]
        exact Ev.now _
  · rw [decide_eq_false h6, Bool.false_and]
    exact Ev.congr (f := fun _ => some false) (fun k => if_neg (by omega)) (Ev.now _)
theorem l1In13 (x : Int) : spec_l1In.f x 1 3 = some (decide (1 ≤ x ∧ x ≤ 3)) := by
  unfold spec_l1In.f
  by_cases h : x ≥ 1
  · rw [if_pos h]; simp [h]
  · rw [if_neg h]; simp; omega
theorem within13 (x : Int) : impl_within.f x 1 3 = some (decide (1 ≤ x ∧ x ≤ 3)) := by
  unfold impl_within.f
  by_cases h : x ≥ 1
  · rw [if_pos h]; simp [h]
  · rw [if_neg h]; simp; omega
theorem spec_mvGood_ev (s : ByteArray) (n : Int) (hs : s.size < 9223372036854775807) : Ev (fun k => spec_mvGood.f k s n) (mvOK s n) :=
  mvOK_ends (spec_steps_from s hs (s.size - 0) 0 rfl (by omega)) spec_l1In.f l1In13
theorem impl_IsMove_ev (s : ByteArray) (n : Int) (hs : s.size < 9223372036854775807) : Ev (fun k => impl_IsMove.f k s n) (mvOK s n) :=
  mvOK_ends (impl_steps_from s hs (s.size - 0) 0 rfl (by omega)) impl_within.f within13
theorem mvOK_parts {s : ByteArray} {n : Int} (h : mvOK s n = true) : s.size ≤ 6 ∧ 1 ≤ n ∧ n ≤ 3 ∧ (s.toList = [] → n = 1) := by
  unfold mvOK at h
  simp only [Bool.and_eq_true, decide_eq_true_eq, Bool.or_eq_true, beq_iff_eq] at h
  obtain ⟨h1, _, h2, h3⟩ := h
  refine ⟨h1, h2.1, h2.2, fun he => ?_⟩
  rcases h3 with h3 | h3
  · exact absurd he h3
  · exact h3

/-- A text c times. -/
def rep (s : ByteArray) (c : Nat) : ByteArray := ⟨(Lib.repeatL s.data.toList c).toArray⟩
theorem rep_list (s : ByteArray) (c : Nat) : (rep s c).data.toList = Lib.repeatL s.data.toList c := by simp [rep]
theorem rep_size (s : ByteArray) (c : Nat) : (rep s c).size = c * s.size := by
  show (Lib.repeatL s.data.toList c).toArray.size = _
  rw [List.size_toArray, Lib.repeatL_length]; rfl
theorem repeatL_snoc (l : List UInt8) : ∀ c, Lib.repeatL l c ++ l = l ++ Lib.repeatL l c
  | 0 => by simp [Lib.repeatL]
  | c + 1 => by simp only [Lib.repeatL, List.append_assoc]; rw [repeatL_snoc l c]
theorem bs_ext {a b : ByteArray} (h : a.data.toList = b.data.toList) : a = b := by
  obtain ⟨⟨a⟩⟩ := a; obtain ⟨⟨b⟩⟩ := b; simp at h; rw [h]
theorem spec_times_from (s : ByteArray) : ∀ (c : Nat) (o : ByteArray), c < 9223372036854775807 → o.size + c * s.size ≤ 9223372036854775807 → Ev (fun k => spec_mvTimes.l0 k s (c : Int) o) (o ++ rep s c)
  | 0, o, hc, h => by
    refine ⟨1, fun k hk => ?_⟩
    obtain ⟨k, rfl⟩ : ∃ m, k = m + 1 := ⟨k - 1, by omega⟩
    simp only [spec_mvTimes.l0]
    rw [if_neg (by omega), show rep s 0 = ⟨#[]⟩ from rfl, bs_app_nil]
  | c + 1, o, hc, h => by
    have hm : (c + 1) * s.size = c * s.size + s.size := Nat.succ_mul _ _
    have hz := spec_times_from s c (o ++ s) (by omega) (by rw [ByteArray.size_append]; omega)
    have e : o ++ s ++ rep s c = o ++ rep s (c + 1) := by
      refine bs_ext ?_
      simp only [ByteArray.data_append, Array.toList_append, rep_list, Lib.repeatL, List.append_assoc]
    rw [e] at hz
    refine Ev.step (fun k => ?_) hz
    simp only [spec_mvTimes.l0]
    rw [if_pos (by omega), if_pos (by omega), w64_i (by omega) (by omega), show ((c + 1 : Nat) : Int) - 1 = (c : Int) by omega]
theorem spec_mvTimes_ev (s : ByteArray) (c : Nat) (hc : c < 9223372036854775807) (h : c * s.size ≤ 9223372036854775807) : Ev (fun k => spec_mvTimes.f k s (c : Int)) (rep s c) := by
  have := spec_times_from s c ⟨#[]⟩ hc (by show 0 + c * s.size ≤ _; omega)
  have e : (⟨#[]⟩ : ByteArray) ++ rep s c = rep s c := by
    refine bs_ext ?_
    simp [ByteArray.data_append]
  rwa [e] at this
theorem impl_rep (s : ByteArray) (c : Nat) (hc : c ≤ 9223372036854775807) (h : s.size * c ≤ 140737488355328) : strings_Repeat.f s (c : Int) = some (rep s c) := by
  unfold strings_Repeat.f
  rw [if_pos ⟨by omega, by omega, by simpa using h⟩]
  rfl
/-- All steps of a movement. -/
def mvSt (s : ByteArray) (n : Int) : ByteArray := rep s n.toNat
theorem spec_mvAll_ev {s : ByteArray} {n : Int} (h : mvOK s n = true) : Ev (fun k => spec_mvAll.f k s n) (mvSt s n) := by
  obtain ⟨h1, h2, h3, _⟩ := mvOK_parts h
  have hn : n = (n.toNat : Int) := by omega
  have hm : n.toNat * s.size ≤ 3 * 6 := Nat.mul_le_mul (by omega) h1
  have := spec_mvTimes_ev s n.toNat (by omega) (by omega)
  rw [← hn] at this
  unfold mvSt
  refine Ev.congr (fun k => ?_) this
  unfold spec_mvAll.f
  cases spec_mvTimes.f k s n <;> rfl
theorem impl_all {s : ByteArray} {n : Int} (h : mvOK s n = true) : impl_Move_all.f s n = some (mvSt s n) := by
  obtain ⟨h1, h2, h3, _⟩ := mvOK_parts h
  have hn : n = (n.toNat : Int) := by omega
  have hm : s.size * n.toNat ≤ 6 * 3 := Nat.mul_le_mul h1 (by omega)
  have := impl_rep s n.toNat (by omega) (by omega)
  rw [← hn] at this
  unfold impl_Move_all.f
  rw [this]
  rfl
theorem mvSt_size {s : ByteArray} {n : Int} (h : mvOK s n = true) : (mvSt s n).size ≤ 18 := by
  obtain ⟨h1, h2, h3, _⟩ := mvOK_parts h
  unfold mvSt
  rw [rep_size]
  exact Nat.le_trans (Nat.mul_le_mul (show n.toNat ≤ 3 by omega) h1) (by omega)
end Go.Proofs.YtojfncpjgpklhaaGreatDoor.PA

namespace Go.Proofs.YtojfncpjgpklhaaGreatDoor.PA
open Go.RowKit Go.Proofs.YtojfncpjgpklhaaGreatDoorW.PrintWords Go.Proofs.YtojfncpjgpklhaaGreatDoorW.PrintLast Go.Proofs.YtojfncpjgpklhaaGreatDoorW.PrintMore
set_option linter.unusedVariables false
set_option linter.unusedSimpArgs false
theorem szMove_small (s : ByteArray) (n a : Int) (hs : s.size ≤ 9223372036854775807) (h0 : 0 ≤ a) (h1 : a ≤ 1048576) (h : (s.size : Int) ≤ a) : laws_szMove.f s n a = some (a - (s.size : Int)) := by
  unfold laws_szMove.f
  rw [w64_i (by omega) (by omega), if_neg (by omega)]
theorem szMove_big (s : ByteArray) (n a : Int) (hs : s.size ≤ 9223372036854775807) (h0 : 0 ≤ a) (h1 : a ≤ 1048576) (h : a < (s.size : Int)) : laws_szMove.f s n a = some (-1) := by
  unfold laws_szMove.f
  rw [w64_i (by omega) (by omega), if_pos (by omega)]
theorem Ev.shift {α : Type} {g : Nat → Option α} {r : α} (h : Ev (fun k => g (k + 1)) r) : Ev g r := Ev.step (fun _ => rfl) h
end Go.Proofs.YtojfncpjgpklhaaGreatDoor.PA

namespace Go.Proofs.YtojfncpjgpklhaaGreatDoor.PA
open Go.RowKit Go.Proofs.YtojfncpjgpklhaaGreatDoorW.PrintWords Go.Proofs.YtojfncpjgpklhaaGreatDoorW.PrintLast Go.Proofs.YtojfncpjgpklhaaGreatDoorW.PrintMore
set_option linter.unusedVariables false
set_option linter.unusedSimpArgs false
theorem in_val (a b c : Int) : spec_l1In.f a b c = some (decide (b ≤ a ∧ a ≤ c)) := by
  unfold spec_l1In.f
  by_cases h : b ≤ a
  · rw [if_pos h]; simp [h]
  · rw [if_neg h]; simp [h]
theorem rd_at (l : List Int) (i : Nat) (h : i < l.length) : rd l (i : Int) = l[i] := by
  unfold rd
  rw [List.getD_eq_getElem?_getD]
  simp [h]
theorem all_from (l : List Int) (a1 a2 : Int) (hl : l.length ≤ 1000) : ∀ (d i : Nat), l.length - i = d → i ≤ l.length → Ev (fun k => spec_l1All.l0 k a1 a2 l (l.length : Int) (i : Int)) (awAll a1 a2 (l.drop i))
  | 0, i, hd, hi => by
    rw [List.drop_eq_nil_of_le (by omega)]
    refine Ev.step (f := fun _ => some true) (fun k => ?_) (Ev.now _)
    simp only [spec_l1All.l0]
    rw [if_neg (by omega)]
  | d + 1, i, hd, hi => by
    have hlt : i < l.length := by omega
    have hw : wrap64 ((i : Int) + 1) = ((i + 1 : Nat) : Int) := w64_succ (by omega)
    rw [List.drop_eq_getElem_cons hlt]
    by_cases h : a1 ≤ l[i] ∧ l[i] ≤ a2
    · have e : awAll a1 a2 (l[i] :: l.drop (i + 1)) = awAll a1 a2 (l.drop (i + 1)) := by simp only [awAll, List.all_cons, decide_eq_true h, Bool.true_and]
      rw [e]
      refine Ev.step (fun k => ?_) (all_from l a1 a2 hl d (i + 1) (by omega) (by omega))
      simp only [spec_l1All.l0, hw, rd_at l i hlt, in_val]
      rw [if_pos (by omega), if_pos (by omega), if_pos (by omega), Option.bind_some, if_pos (decide_eq_true h)]
    · have e : awAll a1 a2 (l[i] :: l.drop (i + 1)) = false := by simp only [awAll, List.all_cons, decide_eq_false h, Bool.false_and]
      rw [e]
      refine Ev.step (f := fun _ => some false) (fun k => ?_) (Ev.now _)
      simp only [spec_l1All.l0, hw, rd_at l i hlt, in_val]
      rw [if_pos (by omega), if_pos (by omega), if_pos (by omega), Option.bind_some, if_neg (by rw [decide_eq_false h]; decide)]
theorem all_ev (l : List Int) (a1 a2 : Int) (hl : l.length ≤ 1000) : Ev (fun k => spec_l1All.f k l a1 a2) (awAll a1 a2 l) := all_from l a1 a2 hl _ 0 rfl (Nat.zero_le _)
/-- May a shape be spread? -/
def wideV (i m r l : Int) : Bool := if m = 0 then (if i = 0 then true else if r = 0 then true else false) else (if r = 0 then l == 0 else false)
theorem impl_spread (t i m r l : Int) (s : Bool) : impl_Shape_maySpread.f t i m r l s = some (wideV i m r l) := by
  unfold impl_Shape_maySpread.f wideV
  split <;> split <;> (try split) <;> rfl
theorem wide_ev (t i m r l : Int) (s : Bool) : Ev (fun k => spec_shWide.f k t i m r l s) (wideV i m r l) := by
  have w0 : wrap64 0 = 0 := w64_i (by decide) (by decide)
  have w1 : wrap64 1 = 1 := w64_i (by decide) (by decide)
  have w2 : wrap64 2 = 2 := w64_i (by decide) (by decide)
  have w3 : wrap64 3 = 3 := w64_i (by decide) (by decide)
  have w4 : wrap64 4 = 4 := w64_i (by decide) (by decide)
  have s4 : Ev (fun k => spec_shWide.l0 k [i, m, r, l] 4) false := Ev.step (f := fun _ => some false) (fun k => by simp [spec_shWide.l0]) (Ev.now _)
  have s3 : Ev (fun k => spec_shWide.l0 k [i, m, r, l] 3) (decide (r = 0 ∧ l = 0)) := by
    by_cases h : r = 0
    · by_cases h' : l = 0
      · exact Ev.step (f := fun _ => some (decide (r = 0 ∧ l = 0))) (fun k => by simp [spec_shWide.l0, rd, w0, w1, w2, w3, w4, h, h']) (Ev.now _)
      · rw [decide_eq_false (fun e => h' e.2)]; exact Ev.step (fun k => by simp [spec_shWide.l0, rd, w0, w1, w2, w3, w4, h, h']) s4
    · rw [decide_eq_false (fun e => h e.1)]; exact Ev.step (fun k => by simp [spec_shWide.l0, rd, w0, w1, w2, w3, w4, h]) s4
  have s2 : Ev (fun k => spec_shWide.l0 k [i, m, r, l] 2) (decide ((m = 0 ∧ r = 0) ∨ (r = 0 ∧ l = 0))) := by
    by_cases h : m = 0 ∧ r = 0
    · rw [decide_eq_true (.inl h)]; exact Ev.step (f := fun _ => some true) (fun k => by simp [spec_shWide.l0, rd, w0, w1, w2, w3, w4, h.1, h.2]) (Ev.now _)
    · have e : decide ((m = 0 ∧ r = 0) ∨ (r = 0 ∧ l = 0)) = decide (r = 0 ∧ l = 0) := by simp [h]
      rw [e]
      refine Ev.step (fun k => ?_) s3
      by_cases h1 : m = 0
      · have h2 : r ≠ 0 := fun e => h ⟨h1, e⟩
        simp [spec_shWide.l0, rd, w0, w1, w2, w3, w4, h1, h2]
      · simp [spec_shWide.l0, rd, w0, w1, w2, w3, w4, h1]
  have s1 : Ev (fun k => spec_shWide.l0 k [i, m, r, l] 1) (decide ((i = 0 ∧ m = 0) ∨ (m = 0 ∧ r = 0) ∨ (r = 0 ∧ l = 0))) := by
    by_cases h : i = 0 ∧ m = 0
    · rw [decide_eq_true (.inl h)]; exact Ev.step (f := fun _ => some true) (fun k => by simp [spec_shWide.l0, rd, w0, w1, w2, w3, w4, h.1, h.2]) (Ev.now _)
    · have e : decide ((i = 0 ∧ m = 0) ∨ (m = 0 ∧ r = 0) ∨ (r = 0 ∧ l = 0)) = decide ((m = 0 ∧ r = 0) ∨ (r = 0 ∧ l = 0)) := by simp [h]
      rw [e]
      refine Ev.step (fun k => ?_) s2
      by_cases h1 : i = 0
      · have h2 : m ≠ 0 := fun e => h ⟨h1, e⟩
        simp [spec_shWide.l0, rd, w0, w1, w2, w3, w4, h1, h2]
      · simp [spec_shWide.l0, rd, w0, w1, w2, w3, w4, h1]
  have e : wideV i m r l = decide ((i = 0 ∧ m = 0) ∨ (m = 0 ∧ r = 0) ∨ (r = 0 ∧ l = 0)) := by
    unfold wideV
    by_cases h1 : m = 0 <;> by_cases h2 : i = 0 <;> by_cases h3 : r = 0 <;> by_cases h4 : l = 0 <;> simp [h1, h2, h3, h4]
  rw [e]
  unfold spec_shWide.f
  simp only [spec_shFingers.f, Option.bind_some]
  exact s1
/-- A valid shape. -/
def shOK (t i m r l : Int) (s : Bool) : Bool := if awAll 0 2 [t, i, m, r, l] = true then (if s = true then wideV i m r l else true) else false
theorem impl_shape (t i m r l : Int) (s : Bool) : impl_IsShape.f t i m r l s = some (shOK t i m r l s) := by
  unfold impl_IsShape.f shOK
  simp only [Option.bind_some, impl_Shape_bends.f, impl_allWithin.f, impl_spread]
  rw [if_pos (by simp), if_pos (by simp), Option.bind_some]
  show (if awAll 0 2 [t, i, m, r, l] = true then _ else _) = _
  split <;> (try split) <;> rfl
theorem spec_shape_ev (t i m r l : Int) (s : Bool) : Ev (fun k => spec_shGood.f k t i m r l s) (shOK t i m r l s) := by
  unfold spec_shGood.f shOK
  simp only [in_val, Option.bind_some, spec_shFingers.f]
  by_cases h : 0 ≤ t ∧ t ≤ 2
  · simp only [decide_eq_true h, if_true]
    refine Ev.bind (all_ev _ _ _ (by simp)) ?_
    have e : awAll 0 2 [t, i, m, r, l] = awAll 0 2 [i, m, r, l] := by unfold awAll; rw [List.all_cons, decide_eq_true h, Bool.true_and]
    rw [e]
    cases awAll 0 2 [i, m, r, l]
    · simp only [Bool.false_eq_true, if_false]; exact Ev.now _
    · simp only [if_true]
      cases s
      · simp only [Bool.false_eq_true, if_false]; exact Ev.now _
      · simp only [if_true]
        exact Ev.bind (wide_ev _ _ _ _ _ _) (Ev.now _)
  · simp only [decide_eq_false h, Bool.false_eq_true, if_false]
    have e : awAll 0 2 [t, i, m, r, l] = false := by simp only [awAll, List.all_cons, decide_eq_false h, Bool.false_and]
    rw [e]
    simp only [Bool.false_eq_true, if_false]
    exact Ev.now _
theorem shOK_in {t i m r l : Int} {s : Bool} (h : shOK t i m r l s = true) : (0 ≤ t ∧ t ≤ 2) ∧ (0 ≤ i ∧ i ≤ 2) ∧ (0 ≤ m ∧ m ≤ 2) ∧ (0 ≤ r ∧ r ≤ 2) ∧ (0 ≤ l ∧ l ≤ 2) := by
  unfold shOK at h
  split at h
  · rename_i h1
    simp only [awAll, List.all_cons, List.all_nil, Bool.and_true, Bool.and_eq_true, decide_eq_true_eq] at h1
    exact h1
  · cases h
/-- A valid orientation. -/
def orOK (p f : Int) : Bool := decide (0 ≤ p ∧ p ≤ 5) && (decide (0 ≤ f ∧ f ≤ 5) && decide (p / 2 ≠ f / 2))
theorem six (p : Int) (h : 0 ≤ p ∧ p ≤ 5) : p = 0 ∨ p = 1 ∨ p = 2 ∨ p = 3 ∨ p = 4 ∨ p = 5 := by omega
theorem impl_orient (p f : Int) : impl_IsOrient.f p f = some (orOK p f) := by
  unfold impl_IsOrient.f orOK
  simp only [aw_within, Option.bind_some]
  by_cases h : 0 ≤ p ∧ p ≤ 5
  · by_cases h' : 0 ≤ f ∧ f ≤ 5
    · rcases six p h with rfl | rfl | rfl | rfl | rfl | rfl <;> rcases six f h' with rfl | rfl | rfl | rfl | rfl | rfl <;> kernel_rfl
    · simp only [decide_eq_true h, decide_eq_false h', if_true, Bool.false_eq_true, if_false, Bool.true_and, Bool.false_and]
  · simp only [decide_eq_false h, Bool.false_eq_true, if_false, Bool.false_and]
theorem spec_orient (p f : Int) : spec_orGood.f p f = some (orOK p f) := by
  unfold spec_orGood.f orOK
  simp only [spec_orDir.f, in_val, Option.bind_some]
  by_cases h : 0 ≤ p ∧ p ≤ 5
  · by_cases h' : 0 ≤ f ∧ f ≤ 5
    · rcases six p h with rfl | rfl | rfl | rfl | rfl | rfl <;> rcases six f h' with rfl | rfl | rfl | rfl | rfl | rfl <;> kernel_rfl
    · simp only [decide_eq_true h, decide_eq_false h', if_true, Bool.false_eq_true, if_false, Bool.true_and, Bool.false_and]
  · simp only [decide_eq_false h, Bool.false_eq_true, if_false, Bool.false_and]
/-- A valid place. -/
def plOK (g s : Int) (c : Bool) : Bool := decide (0 ≤ g ∧ g ≤ 9) && (decide (-1 ≤ s ∧ s ≤ 1) && !(c && g == 0))
theorem impl_place (g s : Int) (c : Bool) : impl_IsPlace.f g s c = some (plOK g s c) := by
  unfold impl_IsPlace.f plOK
  simp only [aw_within, Option.bind_some]
  by_cases h : 0 ≤ g ∧ g ≤ 9
  · by_cases h' : -1 ≤ s ∧ s ≤ 1
    · simp only [decide_eq_true h, decide_eq_true h', if_true, Bool.true_and]
      cases c <;> simp
    · simp only [decide_eq_true h, decide_eq_false h', if_true, Bool.false_eq_true, if_false, Bool.true_and, Bool.false_and]
  · simp only [decide_eq_false h, Bool.false_eq_true, if_false, Bool.false_and]
theorem spec_place (g s : Int) (c : Bool) : spec_plGood.f g s c = some (plOK g s c) := by
  unfold spec_plGood.f plOK
  simp only [in_val, Option.bind_some]
  by_cases h : 0 ≤ g ∧ g ≤ 9
  · by_cases h' : -1 ≤ s ∧ s ≤ 1
    · simp only [decide_eq_true h, decide_eq_true h', if_true, Bool.true_and]
      by_cases h0 : g > 0
      · have e : (g == 0) = false := by simp; omega
        rw [if_pos h0, e]; simp
      · have e : (g == 0) = true := by simp; omega
        rw [if_neg h0, e]; simp
    · simp only [decide_eq_true h, decide_eq_false h', if_true, Bool.false_eq_true, if_false, Bool.true_and, Bool.false_and]
  · simp only [decide_eq_false h, Bool.false_eq_true, if_false, Bool.false_and]
/-- A valid hand. -/
def hdOK (t i m r l : Int) (s : Bool) (p f g d : Int) (c : Bool) (b : ByteArray) (n : Int) : Bool := shOK t i m r l s && (orOK p f && (plOK g d c && mvOK b n))
theorem spec_hand_ev (t i m r l : Int) (s : Bool) (p f g d : Int) (c : Bool) (b : ByteArray) (n : Int) (hb : b.size ≤ 1048576) : Ev (fun k => spec_siHand.f k t i m r l s p f g d c b n) (hdOK t i m r l s p f g d c b n) := by
  unfold spec_siHand.f hdOK
  refine Ev.bind (spec_shape_ev t i m r l s) ?_
  cases shOK t i m r l s
  · simp only [Bool.false_eq_true, if_false, Bool.false_and]; exact Ev.now _
  · simp only [if_true, Bool.true_and, spec_orient, Option.bind_some]
    cases orOK p f
    · simp only [Bool.false_eq_true, if_false, Bool.false_and]; exact Ev.now _
    · simp only [if_true, Bool.true_and, spec_place, Option.bind_some]
      cases plOK g d c
      · simp only [Bool.false_eq_true, if_false, Bool.false_and]; exact Ev.now _
      · simp only [if_true, Bool.true_and]
        exact Ev.bind (spec_mvGood_ev b n (by omega)) (Ev.now _)
theorem impl_hand_ev (t i m r l : Int) (s : Bool) (p f g d : Int) (c : Bool) (b : ByteArray) (n : Int) (hb : b.size ≤ 1048576) : Ev (fun k => impl_IsHand.f k t i m r l s p f g d c b n) (hdOK t i m r l s p f g d c b n) := by
  unfold impl_IsHand.f hdOK
  simp only [impl_shape, impl_orient, impl_place, Option.bind_some]
  cases shOK t i m r l s
  · simp only [Bool.false_eq_true, if_false, Bool.false_and]; exact Ev.now _
  · simp only [if_true, Bool.true_and]
    cases orOK p f
    · simp only [Bool.false_eq_true, if_false, Bool.false_and]; exact Ev.now _
    · simp only [if_true, Bool.true_and]
      cases plOK g d c
      · simp only [Bool.false_eq_true, if_false, Bool.false_and]; exact Ev.now _
      · simp only [if_true, Bool.true_and]
        exact Ev.bind (impl_IsMove_ev b n (by omega)) (Ev.now _)
end Go.Proofs.YtojfncpjgpklhaaGreatDoor.PA

namespace Go.Proofs.YtojfncpjgpklhaaGreatDoor.PA
open Go.RowKit Go.Proofs.YtojfncpjgpklhaaGreatDoorW.PrintWords Go.Proofs.YtojfncpjgpklhaaGreatDoorW.PrintLast Go.Proofs.YtojfncpjgpklhaaGreatDoorW.PrintMore
set_option linter.unusedVariables false
set_option linter.unusedSimpArgs false
theorem spec_swap (d : Int) : spec_orSwap.f d = some (orSw d) := by
  unfold spec_orSwap.f orSw
  by_cases h : d = 2
  · subst h; kernel_rfl
  · by_cases h' : d = 3
    · subst h'; kernel_rfl
    · rw [if_neg h, if_neg h', if_neg h, if_neg h']
theorem spec_or_mirror (p f : Int) : spec_orMirror.f p f = some (orSw p, orSw f) := by
  unfold spec_orMirror.f
  simp only [spec_swap, Option.bind_some]
theorem impl_or_mirror (p f : Int) : impl_Orient_mirrored.f p f = some (orSw p, orSw f) := rfl
theorem orSw_orSw (d : Int) : orSw (orSw d) = d := by
  unfold orSw
  by_cases h : d = 2
  · subst h; rfl
  · by_cases h' : d = 3
    · subst h'; rfl
    · rw [if_neg h, if_neg h', if_neg h, if_neg h']
theorem orSw_eq (a b : Int) : (a == orSw b) = (b == orSw a) := by
  rw [Bool.eq_iff_iff, beq_iff_eq, beq_iff_eq]
  constructor
  · rintro rfl; exact (orSw_orSw b).symm
  · rintro rfl; exact (orSw_orSw a).symm
theorem mir_bt (s : ByteArray) (i : Nat) (h : i < s.size) : bt s (i : Int) = ((s.data.toList[i]'(by rw [Array.length_toList]; exact h)).toNat : Int) := by
  unfold bt
  rw [dif_pos (show ((i : Int)).toNat < s.size by omega)]
  simp [ByteArray.getElem_eq_getElem_data]
/-- The first i letters, mirrored. -/
def mirPre (s : ByteArray) (i : Nat) : ByteArray := ⟨((s.data.toList.take i).map mirB).toArray⟩
theorem mirPre_size (s : ByteArray) (i : Nat) (h : i ≤ s.size) : (mirPre s i).size = i := by
  show ((s.data.toList.take i).map mirB).toArray.size = i
  have : s.data.toList.length = s.size := Array.length_toList
  simp; omega
theorem mirPre_succ (s : ByteArray) (i : Nat) (h : i < s.size) (b : ByteArray) (hb : b.data.toList = [mirB (s.data.toList[i]'(by rw [Array.length_toList]; exact h))]) : mirPre s i ++ b = mirPre s (i + 1) := by
  refine bs_ext ?_
  have hl : i < s.data.toList.length := by rw [Array.length_toList]; exact h
  show (mirPre s i ++ b).data.toList = ((s.data.toList.take (i + 1)).map mirB).toArray.toList
  rw [List.take_succ_eq_append_getElem hl]
  simp only [ByteArray.data_append, Array.toList_append, hb, List.map_append, List.map_cons, List.map_nil]
  rfl
theorem mirPre_all (s : ByteArray) : mirPre s s.size = mirS s := by
  refine bs_ext ?_
  show ((s.data.toList.take s.size).map mirB).toArray.toList = (s.data.map mirB).toList
  rw [List.take_of_length_le (by rw [Array.length_toList]; exact Nat.le_refl _)]
  simp
theorem ext_one (s : ByteArray) (i : Nat) (h : i < s.size) : (s.extract i (i + 1)).data.toList = [s.data.toList[i]'(by rw [Array.length_toList]; exact h)] := by
  have hl : i < s.data.toList.length := by rw [Array.length_toList]; exact h
  rw [ByteArray.data_extract, Array.toList_extract, List.extract_eq_take_drop, show i + 1 - i = 1 by omega, List.drop_eq_getElem_cons hl]
  rfl
theorem mirror_from (s : ByteArray) (n : Int) (hs : s.size ≤ 1000000) : ∀ (d i : Nat), s.size - i = d → i ≤ s.size → Ev (fun k => spec_mvMirror.l0 k (mirPre s i) (i : Int) s n) (mirS s, n)
  | 0, i, hd, hi => by
    have e : i = s.size := by omega
    subst e
    refine Ev.step (f := fun _ => some (mirS s, n)) (fun k => ?_) (Ev.now _)
    simp only [spec_mvMirror.l0]
    rw [if_neg (by omega), mirPre_all]
  | d + 1, i, hd, hi => by
    have hlt : i < s.size := by omega
    have hl : i < s.data.toList.length := by rw [Array.length_toList]; exact hlt
    have hw : wrap64 ((i : Int) + 1) = ((i + 1 : Nat) : Int) := w64_succ (by omega)
    have ih := mirror_from s n hs d (i + 1) (by omega) (by omega)
    have hz := mirPre_size s i hi
    have hb := mir_bt s i hlt
    refine Ev.step (fun k => ?_) ih
    simp only [spec_mvMirror.l0, hw, hb, hz]
    rw [if_pos (by omega), if_pos (by omega), if_pos (by omega)]
    obtain ⟨c, hc⟩ : ∃ c, s.data.toList[i] = c := ⟨_, rfl⟩
    rw [hc]
    by_cases h1 : c = 108
    · rw [if_pos (by rw [h1]; rfl), if_pos (by omega), mirPre_succ s i hlt ⟨#[114]⟩ (by rw [hc, h1]; rfl)]
    · have e1 : ¬ ((c.toNat : Int) = 108) := fun x => h1 (UInt8.toNat_inj.1 (by show c.toNat = 108; omega))
      rw [if_neg e1]
      by_cases h2 : c = 114
      · rw [if_pos (by rw [h2]; rfl), if_pos (by omega), mirPre_succ s i hlt ⟨#[108]⟩ (by rw [hc, h2]; rfl)]
      · have e2 : ¬ ((c.toNat : Int) = 114) := fun x => h2 (UInt8.toNat_inj.1 (by show c.toNat = 114; omega))
        have hx := ext_one s i hlt
        have hxs : (s.extract i (i + 1)).size = 1 := by
          show (s.extract i (i + 1)).data.size = 1
          rw [← Array.length_toList, hx]; rfl
        rw [if_neg e2, if_pos (by omega), if_pos (by omega), if_pos (by omega), show ((i : Int)).toNat = i by omega, show (((i + 1 : Nat) : Int)).toNat = i + 1 by omega, hxs, if_pos (by omega), mirPre_succ s i hlt _ (by rw [hx, hc]; unfold mirB; rw [if_neg h1, if_neg h2])]
theorem spec_mirror_ev (s : ByteArray) (n : Int) (hs : s.size ≤ 1000000) : Ev (fun k => spec_mvMirror.f k s n) (mirS s, n) := by
  unfold spec_mvMirror.f
  exact mirror_from s n hs _ 0 rfl (Nat.zero_le _)
theorem impl_mirror (s : ByteArray) (n : Int) (hs : s.size ≤ 1000000) : impl_Move_mirrored.f s n = some (mirS s, n) := by
  unfold impl_Move_mirrored.f
  rw [if_pos hs]
/-- All steps, of texts and numbers that are small. -/
theorem spec_all_ev {s : ByteArray} {n : Int} (h1 : s.size ≤ 6) (h2 : 0 ≤ n) (h3 : n ≤ 3) : Ev (fun k => spec_mvAll.f k s n) (mvSt s n) := by
  have hn : n = (n.toNat : Int) := by omega
  have hm : n.toNat * s.size ≤ 3 * 6 := Nat.mul_le_mul (by omega) h1
  have := spec_mvTimes_ev s n.toNat (by omega) (by omega)
  rw [← hn] at this
  unfold mvSt
  refine Ev.congr (fun k => ?_) this
  unfold spec_mvAll.f
  cases spec_mvTimes.f k s n <;> rfl
theorem impl_all' {s : ByteArray} {n : Int} (h1 : s.size ≤ 6) (h2 : 0 ≤ n) (h3 : n ≤ 3) : impl_Move_all.f s n = some (mvSt s n) := by
  have hn : n = (n.toNat : Int) := by omega
  have hm : s.size * n.toNat ≤ 6 * 3 := Nat.mul_le_mul h1 (by omega)
  have := impl_rep s n.toNat (by omega) (by omega)
  rw [← hn] at this
  unfold impl_Move_all.f
  rw [this]
  rfl
end Go.Proofs.YtojfncpjgpklhaaGreatDoor.PA

namespace Go.Proofs.YtojfncpjgpklhaaGreatDoor.PA
open Go.RowKit Go.Proofs.YtojfncpjgpklhaaGreatDoorW.PrintWords Go.Proofs.YtojfncpjgpklhaaGreatDoorW.PrintLast Go.Proofs.YtojfncpjgpklhaaGreatDoorW.PrintMore
set_option linter.unusedVariables false
set_option linter.unusedSimpArgs false
/-- The plain shapes. -/
def plainL : List S37 := [⟨0, 0, 0, 0, 0, false⟩, ⟨0, 0, 0, 0, 0, true⟩, ⟨2, 2, 2, 2, 2, false⟩, ⟨1, 0, 0, 0, 0, false⟩, ⟨1, 0, 2, 2, 2, false⟩, ⟨0, 0, 2, 2, 2, false⟩]
theorem spec_plain : spec_siPlain.f 40 = some plainL := by kernel_rfl
theorem impl_plain : impl_PlainShapes.f 40 = some plainL := by kernel_rfl
theorem spec_plain_ev : Ev (fun k => spec_siPlain.f k) plainL := Ev.of (fun k => spec_siPlain.mono k) spec_plain
theorem impl_plain_ev : Ev (fun k => impl_PlainShapes.f k) plainL := Ev.of (fun k => impl_PlainShapes.mono k) impl_plain
/-- The same shape? -/
def shEq (t i m r l : Int) (s : Bool) (t' i' m' r' l' : Int) (s' : Bool) : Bool := t == t' && (i == i' && (m == m' && (r == r' && (l == l' && (s == s')))))
theorem shEq_comm (t i m r l : Int) (s : Bool) (t' i' m' r' l' : Int) (s' : Bool) : shEq t i m r l s t' i' m' r' l' s' = shEq t' i' m' r' l' s' t i m r l s := by
  unfold shEq
  rw [BEq.comm (a := t), BEq.comm (a := i), BEq.comm (a := m), BEq.comm (a := r), BEq.comm (a := l), BEq.comm (a := s)]
theorem shNe (t i m r l : Int) (s : Bool) (t' i' m' r' l' : Int) (s' : Bool) : (!(t == t') || (!(i == i') || (!(m == m') || (!(r == r') || (!(l == l') || (!(s == s'))))))) = !shEq t i m r l s t' i' m' r' l' s' := by
  unfold shEq
  simp only [Bool.not_and]
/-- Is a shape among others? -/
def shIn (L : List S37) (t i m r l : Int) (s : Bool) : Bool := L.any fun x => shEq x.f0 x.f1 x.f2 x.f3 x.f4 x.f5 t i m r l s
theorem sh_at (L : List S37) (i : Nat) (h : i < L.length) : rd_T37 L (i : Int) = L[i] := by
  unfold rd_T37
  rw [List.getD_eq_getElem?_getD]
  simp [h]
theorem shIn_cons (L : List S37) (j : Nat) (h : j < L.length) (t i m r l : Int) (s : Bool) : shIn (L.drop j) t i m r l s = (shEq L[j].f0 L[j].f1 L[j].f2 L[j].f3 L[j].f4 L[j].f5 t i m r l s || shIn (L.drop (j + 1)) t i m r l s) := by
  unfold shIn
  rw [List.drop_eq_getElem_cons h, List.any_cons]
theorem spec_in_from (L : List S37) (hL : L.length ≤ 1000) (t i m r l : Int) (s : Bool) (p f g d : Int) (c : Bool) (b : ByteArray) (n : Int) : ∀ (e j : Nat), L.length - j = e → j ≤ L.length →
    Ev (fun k => spec_siBroken.l0 k L (L.length : Int) (j : Int) t i m r l s p f g d c b n) (if shIn (L.drop j) t i m r l s = true then 0 else 4)
  | 0, j, he, hj => by
    rw [List.drop_eq_nil_of_le (by omega)]
    refine Ev.step (f := fun _ => some 4) (fun k => ?_) (Ev.now _)
    simp only [spec_siBroken.l0]
    rw [if_neg (by omega)]
  | e + 1, j, he, hj => by
    have hlt : j < L.length := by omega
    have hw : wrap64 ((j : Int) + 1) = ((j + 1 : Nat) : Int) := w64_succ (by omega)
    rw [shIn_cons L j hlt]
    cases hq : shEq L[j].f0 L[j].f1 L[j].f2 L[j].f3 L[j].f4 L[j].f5 t i m r l s
    · refine Ev.step (fun k => ?_) (spec_in_from L hL t i m r l s p f g d c b n e (j + 1) (by omega) (by omega))
      simp only [spec_siBroken.l0, hw, sh_at L j hlt]
      unfold shEq at hq
      rw [if_pos (by omega), if_pos (by omega), if_pos (by omega), hq, if_neg (by decide)]
    · refine Ev.step (f := fun _ => some 0) (fun k => ?_) (Ev.now _)
      simp only [spec_siBroken.l0, hw, sh_at L j hlt]
      unfold shEq at hq
      rw [if_pos (by omega), if_pos (by omega), if_pos (by omega), hq, if_pos rfl]
theorem impl_in_from (L : List S37) (hL : L.length ≤ 1000) (t i m r l : Int) (s : Bool) : ∀ (e j : Nat), L.length - j = e → j ≤ L.length →
    ∃ v : Int, decide (v ≥ 0) = shIn (L.drop j) t i m r l s ∧ Ev (fun k => impl_Shape_158.l0 k L (L.length : Int) (j : Int) t i m r l s) v
  | 0, j, he, hj => by
    refine ⟨-1, by rw [List.drop_eq_nil_of_le (by omega)]; rfl, ?_⟩
    refine Ev.step (f := fun _ => some (-1)) (fun k => ?_) (Ev.now _)
    simp only [impl_Shape_158.l0]
    rw [if_neg (by omega)]
  | e + 1, j, he, hj => by
    have hlt : j < L.length := by omega
    have hw : wrap64 ((j : Int) + 1) = ((j + 1 : Nat) : Int) := w64_succ (by omega)
    rw [shIn_cons L j hlt, shEq_comm]
    cases hq : shEq t i m r l s L[j].f0 L[j].f1 L[j].f2 L[j].f3 L[j].f4 L[j].f5
    · obtain ⟨v, hv, hE⟩ := impl_in_from L hL t i m r l s e (j + 1) (by omega) (by omega)
      refine ⟨v, by rw [hv, Bool.false_or], Ev.step (fun k => ?_) hE⟩
      simp only [impl_Shape_158.l0, hw, sh_at L j hlt]
      unfold shEq at hq
      rw [if_pos (by omega), if_pos (by omega), if_pos (by omega), hq, if_neg (by decide)]
    · refine ⟨(j : Int), by rw [Bool.true_or]; simp, Ev.step (f := fun _ => some (j : Int)) (fun k => ?_) (Ev.now _)⟩
      simp only [impl_Shape_158.l0, hw, sh_at L j hlt]
      unfold shEq at hq
      rw [if_pos (by omega), if_pos (by omega), if_pos (by omega), hq, if_pos rfl]
theorem impl_in_ev (L : List S37) (hL : L.length ≤ 1000) (t i m r l : Int) (s : Bool) : Ev (fun k => impl_Shape_112.f k L t i m r l s) (shIn L t i m r l s) := by
  obtain ⟨v, hv, hE⟩ := impl_in_from L hL t i m r l s _ 0 rfl (Nat.zero_le _)
  rw [List.drop_zero] at hv
  unfold impl_Shape_112.f impl_Shape_158.f
  rw [← hv]
  exact Ev.bind hE (Ev.now _)
/-- The same movement, or the mirrored one? -/
def mvFit (b : ByteArray) (n : Int) (b' : ByteArray) (n' : Int) : Bool := decide ((mvSt b n).toList = (mvSt b' n').toList) || decide ((mvSt (mirS b) n).toList = (mvSt b' n').toList)
/-- The same orientation, or the mirrored one? -/
def orFit (p f p' f' : Int) : Bool := (p == p' && f == f') || (p == orSw p' && f == orSw f')
/-- What breaks a rule. -/
def brV (t i m r l : Int) (s : Bool) (p f : Int) (b : ByteArray) (n : Int) (t' i' m' r' l' : Int) (s' : Bool) (p' f' : Int) (b' : ByteArray) (n' : Int) : Int :=
  if b'.toList = ([] : List UInt8) then (if shEq t i m r l s t' i' m' r' l' s' = true then 0 else if shIn plainL t' i' m' r' l' s' = true then 0 else 4)
  else if b.toList = ([] : List UInt8) then 3
  else if shEq t i m r l s t' i' m' r' l' s' = true then (if orFit p f p' f' = true then (if mvFit b n b' n' = true then 0 else 3) else 2) else 1
section
variable (t i m r l : Int) (s : Bool) (p f g d : Int) (c : Bool) (b : ByteArray) (n : Int) (t' i' m' r' l' : Int) (s' : Bool) (p' f' g' d' : Int) (c' : Bool) (b' : ByteArray) (n' : Int)
theorem spec_j1_ev (x : Bool) (hb : b.size ≤ 6) (hn : 0 ≤ n ∧ n ≤ 3) (hb' : b'.size ≤ 6) (hn' : 0 ≤ n' ∧ n' ≤ 3) :
    Ev (fun k => spec_siBroken.j1 k x t i m r l s p f g d c b n t' i' m' r' l' s' p' f' g' d' c' b' n') (if x = true then 2 else if mvFit b n b' n' = true then 0 else 3) := by
  cases x
  · refine Ev.step (fun k => by simp only [spec_siBroken.j1, Bool.false_eq_true, if_false]; exact rfl) ?_
    simp only [Bool.false_eq_true, if_false]
    refine Ev.bind (spec_all_ev hb hn.1 hn.2) (Ev.bind (spec_all_ev hb' hn'.1 hn'.2) ?_)
    unfold mvFit
    by_cases h : (mvSt b n).toList = (mvSt b' n').toList
    · simp only [if_pos h, decide_eq_true h, Bool.true_or, if_true]; exact Ev.now _
    · simp only [if_neg h, decide_eq_false h, Bool.false_or]
      refine Ev.bind (spec_mirror_ev b n (by omega)) (Ev.bind (spec_all_ev (s := mirS b) (by rw [mirS_size]; exact hb) hn.1 hn.2) (Ev.bind (spec_all_ev hb' hn'.1 hn'.2) ?_))
      by_cases h2 : (mvSt (mirS b) n).toList = (mvSt b' n').toList
      · simp only [if_pos h2, decide_eq_true h2, if_true]; exact Ev.now _
      · simp only [if_neg h2, decide_eq_false h2, Bool.false_eq_true, if_false]; exact Ev.now _
  · refine Ev.step (f := fun _ => some 2) (fun k => by simp only [spec_siBroken.j1, if_true]) ?_
    simp only [if_true]; exact Ev.now _
theorem spec_broken_ev (hb : b.size ≤ 6) (hn : 0 ≤ n ∧ n ≤ 3) (hb' : b'.size ≤ 6) (hn' : 0 ≤ n' ∧ n' ≤ 3) :
    Ev (fun k => spec_siBroken.f k t i m r l s p f g d c b n t' i' m' r' l' s' p' f' g' d' c' b' n') (brV t i m r l s p f b n t' i' m' r' l' s' p' f' b' n') := by
  unfold spec_siBroken.f brV
  by_cases h0 : b'.toList = ([] : List UInt8)
  · simp only [if_pos h0]
    show Ev (fun k => if shEq t i m r l s t' i' m' r' l' s' = true then some 0 else _) _
    cases shEq t i m r l s t' i' m' r' l' s'
    · simp only [Bool.false_eq_true, if_false]
      exact Ev.bind spec_plain_ev (spec_in_from plainL (by decide) t' i' m' r' l' s' p' f' g' d' c' b' n' _ 0 rfl (Nat.zero_le _))
    · simp only [if_true]; exact Ev.now _
  · simp only [if_neg h0]
    by_cases h1 : b.toList = ([] : List UInt8)
    · simp only [if_pos h1]; exact Ev.now _
    · simp only [if_neg h1]
      cases h5 : shEq t i m r l s t' i' m' r' l' s'
      · have e5 : (t == t' && (i == i' && (m == m' && (r == r' && (l == l' && (s == s')))))) = false := h5
        simp only [e5, Bool.false_eq_true, if_false, Bool.not_false, if_true]; exact Ev.now _
      · have e5 : (t == t' && (i == i' && (m == m' && (r == r' && (l == l' && (s == s')))))) = true := h5
        simp only [e5, Bool.not_true, Bool.false_eq_true, if_false, if_true, spec_or_mirror, Option.bind_some]
        unfold orFit
        cases h2 : (p == p' && f == f')
        · simp only [Bool.false_eq_true, if_false, Bool.false_or]
          have := spec_j1_ev t i m r l s p f g d c b n t' i' m' r' l' s' p' f' g' d' c' b' n' (!(p == orSw p' && f == orSw f')) hb hn hb' hn'
          cases h3 : (p == orSw p' && f == orSw f')
          · rw [h3] at this
            exact this
          · rw [h3] at this
            exact this
        · simp only [if_true, Bool.true_or]
          exact spec_j1_ev t i m r l s p f g d c b n t' i' m' r' l' s' p' f' g' d' c' b' n' false hb hn hb' hn'
theorem impl_moves : impl_Hand_moves.f t i m r l s p f g d c b n = some (!decide (b.toList = ([] : List UInt8))) := by
  unfold impl_Hand_moves.f
  first | rfl | (by_cases h : b.toList = ([] : List UInt8) <;> simp [h])
theorem impl_j0_ev (x : Bool) (hb : b.size ≤ 6) (hn : 0 ≤ n ∧ n ≤ 3) (hb' : b'.size ≤ 6) (hn' : 0 ≤ n' ∧ n' ≤ 3) :
    Ev (fun k => impl_keepRules.j0 k x t i m r l s p f g d c b n t' i' m' r' l' s' p' f' g' d' c' b' n') (!decide (b.toList = ([] : List UInt8)) && (shEq t i m r l s t' i' m' r' l' s' && (x && mvFit b n b' n'))) := by
  refine Ev.step (f := fun _ => some (!decide (b.toList = ([] : List UInt8)) && (shEq t i m r l s t' i' m' r' l' s' && (x && mvFit b n b' n')))) (fun k => ?_) (Ev.now _)
  simp only [impl_keepRules.j0, impl_all' hb hn.1 hn.2, impl_all' hb' hn'.1 hn'.2, impl_mirror b n (by omega), impl_all' (s := mirS b) (by rw [mirS_size]; exact hb) hn.1 hn.2, Option.bind_some, impl_moves]
  show (if _ then (if _ then (if shEq t i m r l s t' i' m' r' l' s' = true then _ else _) else _) else (if _ then (if shEq t i m r l s t' i' m' r' l' s' = true then _ else _) else _)) = _
  unfold mvFit
  have e2 : ((mvSt b' n').toList == (mvSt (mirS b) n).toList) = decide ((mvSt (mirS b) n).toList = (mvSt b' n').toList) := by
    rw [Bool.eq_iff_iff, beq_iff_eq, decide_eq_true_eq]; exact ⟨Eq.symm, Eq.symm⟩
  rw [e2]
  generalize decide ((mvSt (mirS b) n).toList = (mvSt b' n').toList) = P2
  by_cases h1 : (mvSt b n).toList = (mvSt b' n').toList
  · rw [if_pos h1.symm, decide_eq_true h1]
    by_cases h2 : b.toList = ([] : List UInt8) <;> cases shEq t i m r l s t' i' m' r' l' s' <;> cases x <;> simp [h2]
  · rw [if_neg (fun e => h1 e.symm), decide_eq_false h1]
    by_cases h2 : b.toList = ([] : List UInt8) <;> cases shEq t i m r l s t' i' m' r' l' s' <;> cases x <;> cases P2 <;> simp [h2]
theorem impl_keep_ev (hb : b.size ≤ 6) (hn : 0 ≤ n ∧ n ≤ 3) (hb' : b'.size ≤ 6) (hn' : 0 ≤ n' ∧ n' ≤ 3) :
    Ev (fun k => impl_keepRules.f k t i m r l s p f g d c b n t' i' m' r' l' s' p' f' g' d' c' b' n') (brV t i m r l s p f b n t' i' m' r' l' s' p' f' b' n' == 0) := by
  unfold impl_keepRules.f brV
  simp only [impl_moves, Option.bind_some]
  by_cases h0 : b'.toList = ([] : List UInt8)
  · simp only [decide_eq_true h0, Bool.not_true, Bool.false_eq_true, if_false, if_pos h0]
    show Ev (fun k => if shEq t' i' m' r' l' s' t i m r l s = true then _ else _) _
    rw [shEq_comm t' i' m' r' l' s']
    cases shEq t i m r l s t' i' m' r' l' s'
    · simp only [Bool.false_eq_true, if_false]
      refine Ev.bind impl_plain_ev (Ev.bind (impl_in_ev plainL (by decide) t' i' m' r' l' s') ?_)
      cases shIn plainL t' i' m' r' l' s' <;> exact Ev.now _
    · simp only [if_true]; exact Ev.now _
  · simp only [decide_eq_false h0, Bool.not_false, if_true, if_neg h0, impl_or_mirror, Option.bind_some]
    have hJ := fun x => impl_j0_ev t i m r l s p f g d c b n t' i' m' r' l' s' p' f' g' d' c' b' n' x hb hn hb' hn'
    have fin : ∀ x, x = orFit p f p' f' → (!decide (b.toList = ([] : List UInt8)) && (shEq t i m r l s t' i' m' r' l' s' && (x && mvFit b n b' n'))) = ((if b.toList = ([] : List UInt8) then (3 : Int) else if shEq t i m r l s t' i' m' r' l' s' = true then (if orFit p f p' f' = true then (if mvFit b n b' n' = true then 0 else 3) else 2) else 1) == 0) := by
      rintro x rfl
      by_cases h1 : b.toList = ([] : List UInt8)
      · simp only [decide_eq_true h1, if_pos h1]; rfl
      · simp only [decide_eq_false h1, if_neg h1]
        cases shEq t i m r l s t' i' m' r' l' s' <;> cases orFit p f p' f' <;> cases mvFit b n b' n' <;> rfl
    unfold orFit at fin
    cases h2 : (p' == p && f' == f)
    · simp only [Bool.false_eq_true, if_false]
      have e : (p' == orSw p && f' == orSw f) = ((p == p' && f == f') || (p == orSw p' && f == orSw f')) := by
        rw [orSw_eq p' p, orSw_eq f' f, BEq.comm (a := p) (b := p'), BEq.comm (a := f) (b := f'), h2, Bool.false_or]
      have := hJ (p' == orSw p && f' == orSw f)
      rw [fin _ e] at this
      exact this
    · simp only [if_true]
      have e : true = ((p == p' && f == f') || (p == orSw p' && f == orSw f')) := by
        rw [BEq.comm (a := p) (b := p'), BEq.comm (a := f) (b := f'), h2, Bool.true_or]
      have := hJ true
      rw [fin _ e] at this
      exact this
end
end Go.Proofs.YtojfncpjgpklhaaGreatDoor.PA

namespace Go.Proofs.YtojfncpjgpklhaaGreatDoor.PA
open Go.RowKit Go.Proofs.YtojfncpjgpklhaaGreatDoorW.PrintWords Go.Proofs.YtojfncpjgpklhaaGreatDoorW.PrintLast Go.Proofs.YtojfncpjgpklhaaGreatDoorW.PrintMore
theorem hdOK_mv {t i m r l : Int} {s : Bool} {p f g d : Int} {c : Bool} {b : ByteArray} {n : Int} (h : hdOK t i m r l s p f g d c b n = true) : b.size ≤ 6 ∧ 0 ≤ n ∧ n ≤ 3 := by
  unfold hdOK at h
  simp only [Bool.and_eq_true] at h
  obtain ⟨h1, h2, h3, _⟩ := mvOK_parts h.2.2.2
  exact ⟨h1, by omega, h3⟩
end Go.Proofs.YtojfncpjgpklhaaGreatDoor.PA

namespace Go.Proofs.YtojfncpjgpklhaaGreatDoor.PA
open Go.RowKit Go.Proofs.YtojfncpjgpklhaaGreatDoorW.PrintWords Go.Proofs.YtojfncpjgpklhaaGreatDoorW.PrintLast Go.Proofs.YtojfncpjgpklhaaGreatDoorW.PrintMore
set_option linter.unusedVariables false
set_option linter.unusedSimpArgs false
section
variable (t i m r l : Int) (s : Bool) (p f g d : Int) (c : Bool) (b : ByteArray) (n : Int) (w : Bool) (t' i' m' r' l' : Int) (s' : Bool) (p' f' g' d' : Int) (c' : Bool) (b' : ByteArray) (n' : Int)
/-- No hand. -/
def noHd : Bool := ((t' == 0 && (i' == 0 && (m' == 0 && (r' == 0 && (l' == 0 && (!s')))))) && ((p' == 0 && (f' == 0)) && ((g' == 0 && (d' == 0 && (!c'))) && ((b'.toList == ([] : List UInt8) && (n' == 0))))))
theorem nilL : (⟨#[]⟩ : ByteArray).toList = [] := by unfold ByteArray.toList ByteArray.toList.loop; rfl
theorem noHd_raw : ((t' == 0 && (i' == 0 && (m' == 0 && (r' == 0 && (l' == 0 && (s' == false)))))) && ((p' == 0 && (f' == 0)) && ((g' == 0 && (d' == 0 && (c' == false))) && ((b'.toList == (⟨#[]⟩ : ByteArray).toList && (n' == 0)))))) = noHd t' i' m' r' l' s' p' f' g' d' c' b' n' := by
  unfold noHd
  rw [nilL, show (s' == false) = !s' by cases s' <;> rfl, show (c' == false) = !c' by cases c' <;> rfl]
/-- A valid sign. -/
def sgOK : Bool := hdOK t i m r l s p f g d c b n && (if w = true then (hdOK t' i' m' r' l' s' p' f' g' d' c' b' n' && (brV t i m r l s p f b n t' i' m' r' l' s' p' f' b' n' == 0)) else noHd t' i' m' r' l' s' p' f' g' d' c' b' n')
theorem spec_good_ev (hb : b.size ≤ 1048576) (hb' : b'.size ≤ 1048576) : Ev (fun k => spec_siGood.f k t i m r l s p f g d c b n w t' i' m' r' l' s' p' f' g' d' c' b' n') (sgOK t i m r l s p f g d c b n w t' i' m' r' l' s' p' f' g' d' c' b' n') := by
  unfold spec_siGood.f sgOK
  refine Ev.bind (spec_hand_ev t i m r l s p f g d c b n hb) ?_
  cases h : hdOK t i m r l s p f g d c b n
  · simp only [Bool.false_eq_true, if_false, Bool.false_and]; exact Ev.now _
  · simp only [if_true, Bool.true_and]
    cases w
    · simp only [Bool.false_eq_true, if_false, noHd_raw]; exact Ev.now _
    · simp only [if_true]
      refine Ev.bind (spec_hand_ev t' i' m' r' l' s' p' f' g' d' c' b' n' hb') ?_
      cases h' : hdOK t' i' m' r' l' s' p' f' g' d' c' b' n'
      · simp only [Bool.false_eq_true, if_false, Bool.false_and]; exact Ev.now _
      · simp only [if_true, Bool.true_and]
        have h1 := hdOK_mv h
        have h2 := hdOK_mv h'
        exact Ev.bind (spec_broken_ev t i m r l s p f g d c b n t' i' m' r' l' s' p' f' g' d' c' b' n' h1.1 h1.2 h2.1 h2.2) (Ev.now _)
theorem impl_sign_ev (hb : b.size ≤ 1048576) (hb' : b'.size ≤ 1048576) : Ev (fun k => impl_IsSign.f k t i m r l s p f g d c b n w t' i' m' r' l' s' p' f' g' d' c' b' n') (sgOK t i m r l s p f g d c b n w t' i' m' r' l' s' p' f' g' d' c' b' n') := by
  unfold impl_IsSign.f sgOK
  refine Ev.bind (impl_hand_ev t i m r l s p f g d c b n hb) ?_
  cases h : hdOK t i m r l s p f g d c b n
  · simp only [Bool.false_eq_true, if_false, Bool.false_and]; exact Ev.now _
  · simp only [if_true, Bool.true_and]
    cases w
    · simp only [Bool.false_eq_true, if_false, noHd_raw]; exact Ev.now _
    · simp only [if_true]
      refine Ev.bind (impl_hand_ev t' i' m' r' l' s' p' f' g' d' c' b' n' hb') ?_
      cases h' : hdOK t' i' m' r' l' s' p' f' g' d' c' b' n'
      · simp only [Bool.false_eq_true, if_false, Bool.false_and]; exact Ev.now _
      · simp only [if_true, Bool.true_and]
        have h1 := hdOK_mv h
        have h2 := hdOK_mv h'
        exact Ev.bind (impl_keep_ev t i m r l s p f g d c b n t' i' m' r' l' s' p' f' g' d' c' b' n' h1.1 h1.2 h2.1 h2.2) (Ev.now _)
end
end Go.Proofs.YtojfncpjgpklhaaGreatDoor.PA

namespace Go.Proofs.YtojfncpjgpklhaaGreatDoor.PA
open Go.RowKit Go.Proofs.YtojfncpjgpklhaaGreatDoorW.PrintWords Go.Proofs.YtojfncpjgpklhaaGreatDoorW.PrintLast Go.Proofs.YtojfncpjgpklhaaGreatDoorW.PrintMore
set_option linter.unusedVariables false
set_option linter.unusedSimpArgs false
section
variable (t i m r l : Int) (s : Bool) (p f g d : Int) (c : Bool) (b : ByteArray) (n : Int) (w : Bool) (t' i' m' r' l' : Int) (s' : Bool) (p' f' g' d' : Int) (c' : Bool) (b' : ByteArray) (n' : Int)
theorem to_hand : laws_toHand.f t i m r l s p f g d c b n = some (t, i, m, r, l, s, p, f, g, d, c, b, n) := by
  simp only [laws_toHand.f, laws_toShape.f, laws_toOrient.f, laws_toPlace.f, laws_toMove.f, Option.bind_some]
theorem sz_hand (a : Int) (h0 : 0 ≤ a) (h1 : a ≤ 1048576) (hb : b.size ≤ 9223372036854775807) : laws_szHand.f t i m r l s p f g d c b n a = some (if (b.size : Int) ≤ a then a - (b.size : Int) else -1) := by
  by_cases h : (b.size : Int) ≤ a
  · rw [if_pos h]
    simp only [laws_szHand.f, szMove_small b n a hb h0 h1 h, Option.bind_some]
    first | rw [if_neg (by omega)] | rfl
  · rw [if_neg h]
    simp only [laws_szHand.f, szMove_big b n a hb h0 h1 (by omega), Option.bind_some]
    first | rw [if_pos (by omega)] | rfl
end
end Go.Proofs.YtojfncpjgpklhaaGreatDoor.PA

namespace Go.Proofs.YtojfncpjgpklhaaGreatDoor.PA
open Go.RowKit Go.Proofs.YtojfncpjgpklhaaGreatDoorW.PrintWords Go.Proofs.YtojfncpjgpklhaaGreatDoorW.PrintLast Go.Proofs.YtojfncpjgpklhaaGreatDoorW.PrintMore
set_option linter.unusedVariables false
set_option linter.unusedSimpArgs false
section
variable (t i m r l : Int) (s : Bool) (p f g d : Int) (c : Bool) (b : ByteArray) (n : Int) (w : Bool) (t' i' m' r' l' : Int) (s' : Bool) (p' f' g' d' : Int) (c' : Bool) (b' : ByteArray) (n' : Int)
theorem to_sign : laws_toSign.f t i m r l s p f g d c b n w t' i' m' r' l' s' p' f' g' d' c' b' n' = some (t, i, m, r, l, s, p, f, g, d, c, b, n, w, t', i', m', r', l', s', p', f', g', d', c', b', n') := by
  simp only [laws_toSign.f, to_hand, Option.bind_some]
/-- Of a sign's size: too large, or both movements are small. -/
theorem sz_sign (a : Int) (h0 : 0 ≤ a) (h1 : a ≤ 1048576) (hb : b.size ≤ 9223372036854775807) (hb' : b'.size ≤ 9223372036854775807) :
    ∃ v, laws_szSign.f t i m r l s p f g d c b n w t' i' m' r' l' s' p' f' g' d' c' b' n' a = some v ∧ (v < 0 ∨ (0 ≤ v ∧ v ≤ 1048576 ∧ b.size ≤ 1048576 ∧ b'.size ≤ 1048576)) := by
  unfold laws_szSign.f
  rw [sz_hand t i m r l s p f g d c b n a h0 h1 hb]
  by_cases h : (b.size : Int) ≤ a
  · rw [if_pos h]
    simp only [Option.bind_some]
    rw [if_neg (by omega), sz_hand t' i' m' r' l' s' p' f' g' d' c' b' n' (a - (b.size : Int)) (by omega) (by omega) hb']
    by_cases h' : (b'.size : Int) ≤ a - (b.size : Int)
    · rw [if_pos h']
      simp only [Option.bind_some]
      rw [if_neg (by omega)]
      exact ⟨_, rfl, .inr ⟨by omega, by omega, by omega, by omega⟩⟩
    · rw [if_neg h']
      simp only [Option.bind_some]
      exact ⟨-1, by rw [if_pos (by omega)], .inl (by omega)⟩
  · rw [if_neg h]
    simp only [Option.bind_some]
    exact ⟨-1, by rw [if_pos (by omega)], .inl (by omega)⟩
end
end Go.Proofs.YtojfncpjgpklhaaGreatDoor.PA

namespace Go.Proofs.YtojfncpjgpklhaaGreatDoor.PA
open Go.RowKit Go.Proofs.YtojfncpjgpklhaaGreatDoorW.PrintWords Go.Proofs.YtojfncpjgpklhaaGreatDoorW.PrintLast Go.Proofs.YtojfncpjgpklhaaGreatDoorW.PrintMore
set_option linter.unusedVariables false
set_option linter.unusedSimpArgs false

/-- The first r-th part of a text. -/
def moCut (s : ByteArray) (r : Nat) : ByteArray := s.extract 0 (s.size / r)
def moRep (s : ByteArray) (r : Nat) : ByteArray := ⟨(Lib.repeatL (moCut s r).data.toList r).toArray⟩
/-- Is the text its r-th part r times, and this of at most six letters? -/
def moHit (s : ByteArray) (r : Nat) : Bool := decide ((moCut s r).size ≤ 6) && ((moRep s r).toList == s.toList)
def moV (s : ByteArray) : ByteArray × Int × Bool :=
  if s.toList = [] then (⟨#[]⟩, 1, true) else if moHit s 3 = true then (moCut s 3, 3, true) else if moHit s 2 = true then (moCut s 2, 2, true) else if moHit s 1 = true then (moCut s 1, 1, true) else (⟨#[]⟩, 0, false)
def MoRel (a0 : ByteArray) (x : Nat) : Prop := x ≤ 3 ∧ ∀ r, x < r → r ≤ 3 → moHit a0 r = false
theorem moRel_step {a0 : ByteArray} {x : Nat} (h : MoRel a0 (x + 1)) (hm : moHit a0 (x + 1) = false) : MoRel a0 x := by
  refine ⟨by have := h.1; omega, fun r hr hr3 => ?_⟩
  by_cases e : r = x + 1
  · subst e; exact hm
  · exact h.2 r (by omega) hr3
theorem moCut_size (a0 : ByteArray) (r : Nat) : (moCut a0 r).size = min (a0.size / r) a0.size := by
  unfold moCut; rw [ByteArray.size_extract, Nat.sub_zero]
theorem moCut_one (a0 : ByteArray) : moCut a0 1 = a0 := by
  unfold moCut; rw [Nat.div_one]; exact ByteArray.extract_zero_size
theorem mo_parts (a0 : ByteArray) (r : Nat) (hr : 1 ≤ r ∧ r ≤ 3) (hs : a0.size ≤ 46000000000000) : ∃ tt, tt = moRep a0 r ∧ strings_Repeat.f (a0.extract 0 (a0.size / r)) (r : Int) = some tt ∧ moHit a0 r = (decide ((moCut a0 r).size ≤ 6) && (tt.toList == a0.toList)) := by
  refine ⟨_, rfl, ?_, rfl⟩
  unfold strings_Repeat.f
  have h1 := moCut_size a0 r
  unfold moCut at h1
  have h2 : (a0.extract 0 (a0.size / r)).size * ((r : Nat) : Int).toNat ≤ 140737488355328 := by
    rw [h1, Int.toNat_natCast]
    exact Nat.le_trans (Nat.mul_le_mul (Nat.min_le_right _ _) hr.2) (by omega)
  rw [if_pos ⟨by omega, by omega, h2⟩]
  rfl
theorem moV_hit {a0 : ByteArray} {x : Nat} (hc : ¬ a0.toList = []) (h : MoRel a0 x) (h1 : 1 ≤ x) (hh : moHit a0 x = true) : moV a0 = (moCut a0 x, (x : Int), true) := by
  unfold moV
  rw [if_neg hc]
  have := h.1
  have e : x = 3 ∨ x = 2 ∨ x = 1 := by omega
  rcases e with rfl | rfl | rfl
  · rw [if_pos hh]; rfl
  · rw [if_neg (by rw [h.2 3 (by omega) (by omega)]; decide), if_pos hh]; rfl
  · rw [if_neg (by rw [h.2 3 (by omega) (by omega)]; decide), if_neg (by rw [h.2 2 (by omega) (by omega)]; decide), if_pos hh]; rfl
theorem moV_none {a0 : ByteArray} (hc : ¬ a0.toList = []) (h : MoRel a0 0) : moV a0 = (⟨#[]⟩, 0, false) := by
  unfold moV
  rw [if_neg hc, if_neg (by rw [h.2 3 (by omega) (by omega)]; decide), if_neg (by rw [h.2 2 (by omega) (by omega)]; decide), if_neg (by rw [h.2 1 (by omega) (by omega)]; decide)]
/-- Are the first n letters, t times, the text? -/
def PN (s : ByteArray) (n t : Nat) : Prop := (rep (s.extract 0 n) t).toList = s.toList
theorem ext_size (s : ByteArray) (n : Nat) (h : n ≤ s.size) : (s.extract 0 n).size = n := by rw [ByteArray.size_extract]; omega
theorem bs_toList_inj {a b : ByteArray} (h : a.toList = b.toList) : a = b := by
  rw [ByteArray.toList_eq, ByteArray.toList_eq] at h
  exact bs_ext h
theorem PN_size {s : ByteArray} {n t : Nat} (h : n ≤ s.size) (hp : PN s n t) : t * n = s.size := by
  have := congrArg ByteArray.size (bs_toList_inj hp)
  rwa [rep_size, ext_size s n h] at this
theorem moRep_eq (s : ByteArray) (r : Nat) : moRep s r = rep (moCut s r) r := rfl
theorem moHit_iff (s : ByteArray) (r : Nat) : moHit s r = true ↔ (s.size / r ≤ 6 ∧ PN s (s.size / r) r) := by
  unfold moHit
  have h1 : (moCut s r).size = s.size / r := by rw [moCut_size]; have := Nat.div_le_self s.size r; omega
  rw [Bool.and_eq_true, decide_eq_true_eq, beq_iff_eq, h1]
  rfl
theorem of_step (s : ByteArray) (hs : s.size ≤ 1000) {n t : Nat} (h1 : 1 ≤ t) (h3 : t ≤ 3) (hn : n ≤ s.size) (hm : ¬ PN s n t) {v : ByteArray × Int × Bool} (h : Ev (fun k => spec_mvOf.l1 k s (n : Int) ((t + 1 : Nat) : Int)) v) : Ev (fun k => spec_mvOf.l1 k s (n : Int) (t : Int)) v := by
  refine Ev.step (f := fun k => (spec_mvTimes.f k (s.extract 0 n) (t : Int)).bind fun z => if z.toList = s.toList then some (s.extract 0 n, (t : Int), true) else spec_mvOf.l1 k s (n : Int) ((t + 1 : Nat) : Int)) (fun k => ?_) ?_
  · simp only [spec_mvOf.l1]
    simp only [if_pos (show (t : Int) ≤ 3 by omega), if_pos (show (0 : Int) ≤ (n : Int) by omega), if_pos (show (n : Int) ≤ (s.size : Int) by omega), w64_succ (show t < 9223372036854775807 by omega)]
    rfl
  · have hsz := ext_size s n hn
    have hle : t * n ≤ 3 * 1000 := Nat.mul_le_mul h3 (by omega)
    refine Ev.bind (spec_mvTimes_ev (s.extract 0 n) t (by omega) (by rw [hsz]; omega)) ?_
    exact Ev.congr (fun k => if_neg hm) h
theorem of_hit (s : ByteArray) (hs : s.size ≤ 1000) {n t : Nat} (h1 : 1 ≤ t) (h3 : t ≤ 3) (hn : n ≤ s.size) (hm : PN s n t) : Ev (fun k => spec_mvOf.l1 k s (n : Int) (t : Int)) (s.extract 0 n, (t : Int), true) := by
  refine Ev.step (f := fun k => (spec_mvTimes.f k (s.extract 0 n) (t : Int)).bind fun z => if z.toList = s.toList then some (s.extract 0 n, (t : Int), true) else spec_mvOf.l1 k s (n : Int) ((t + 1 : Nat) : Int)) (fun k => ?_) ?_
  · simp only [spec_mvOf.l1]
    simp only [if_pos (show (t : Int) ≤ 3 by omega), if_pos (show (0 : Int) ≤ (n : Int) by omega), if_pos (show (n : Int) ≤ (s.size : Int) by omega), w64_succ (show t < 9223372036854775807 by omega)]
    rfl
  · have hsz := ext_size s n hn
    have hle : t * n ≤ 3 * 1000 := Nat.mul_le_mul h3 (by omega)
    refine Ev.bind (spec_mvTimes_ev (s.extract 0 n) t (by omega) (by rw [hsz]; omega)) ?_
    exact Ev.congr (fun k => if_pos hm) (Ev.now _)
theorem of_next (s : ByteArray) (hs : s.size ≤ 1000) {n : Nat} (hn : n ≤ 1000) {v : ByteArray × Int × Bool} (h : Ev (fun k => spec_mvOf.l0 k s ((n + 1 : Nat) : Int)) v) : Ev (fun k => spec_mvOf.l1 k s (n : Int) 4) v := by
  refine Ev.step (fun k => ?_) h
  simp only [spec_mvOf.l1]
  rw [if_neg (by omega), w64_succ (by omega)]
theorem of_enter (s : ByteArray) (hs : s.size ≤ 1000) {n : Nat} (h6 : n ≤ 6) (hn : n ≤ s.size) {v : ByteArray × Int × Bool} (h : Ev (fun k => spec_mvOf.l1 k s (n : Int) 1) v) : Ev (fun k => spec_mvOf.l0 k s (n : Int)) v := by
  refine Ev.step (f := fun k => spec_mvOf.j1 k s (n : Int) true) (fun k => ?_) ?_
  · simp only [spec_mvOf.l0]
    rw [if_pos (by omega), decide_eq_true (show (n : Int) ≤ (s.size : Int) by omega)]
  · refine Ev.step (fun k => ?_) h
    simp only [spec_mvOf.j1, if_true]
theorem of_leave (s : ByteArray) (hs : s.size ≤ 1000) {n : Nat} (h6 : ¬ (n ≤ 6 ∧ n ≤ s.size)) : Ev (fun k => spec_mvOf.l0 k s (n : Int)) (⟨#[]⟩, 0, false) := by
  refine Ev.step (f := fun k => spec_mvOf.j1 k s (n : Int) false) (fun k => ?_) ?_
  · simp only [spec_mvOf.l0]
    by_cases h : n ≤ 6
    · rw [if_pos (by omega), decide_eq_false (show ¬ (n : Int) ≤ (s.size : Int) by omega)]
    · rw [if_neg (by omega)]
  · refine Ev.step (f := fun _ => some (⟨#[]⟩, 0, false)) (fun k => ?_) (Ev.now _)
    simp only [spec_mvOf.j1, Bool.false_eq_true, if_false]
theorem of_row (s : ByteArray) (hs : s.size ≤ 1000) {n : Nat} (h6 : n ≤ 6) (hn : n ≤ s.size) (hm : ∀ t, 1 ≤ t → t ≤ 3 → ¬ PN s n t) {v : ByteArray × Int × Bool} (h : Ev (fun k => spec_mvOf.l0 k s ((n + 1 : Nat) : Int)) v) : Ev (fun k => spec_mvOf.l0 k s (n : Int)) v :=
  of_enter s hs h6 hn (of_step s hs (t := 1) (by omega) (by omega) hn (hm 1 (by omega) (by omega)) (of_step s hs (t := 2) (by omega) (by omega) hn (hm 2 (by omega) (by omega)) (of_step s hs (t := 3) (by omega) (by omega) hn (hm 3 (by omega) (by omega)) (of_next s hs (by omega) h))))
theorem of_rows (s : ByteArray) (hs : s.size ≤ 1000) {m : Nat} (h6 : m ≤ 7) (hn : m ≤ s.size + 1) (hm : ∀ n t, 1 ≤ n → n < m → 1 ≤ t → t ≤ 3 → ¬ PN s n t) {v : ByteArray × Int × Bool} (h : Ev (fun k => spec_mvOf.l0 k s (m : Int)) v) : ∀ d n, m - n = d → 1 ≤ n → n ≤ m → Ev (fun k => spec_mvOf.l0 k s (n : Int)) v := by
  intro d
  induction d with
  | zero => intro n hd h1 hle; (obtain rfl : n = m := (by omega)); exact h
  | succ d ih => intro n hd h1 hle; exact of_row s hs (by omega) (by omega) (fun t a b => hm n t h1 (by omega) a b) (ih (n + 1) (by omega) (by omega) (by omega))
theorem spec_mvOf_ev (s : ByteArray) (hs : s.size ≤ 1000) : Ev (fun k => spec_mvOf.f k s) (moV s) := by
  unfold spec_mvOf.f moV
  by_cases he : s.toList = []
  · rw [if_pos he]
    exact Ev.congr (f := fun _ => some _) (fun k => if_pos he) (Ev.now _)
  · rw [if_neg he]
    refine Ev.congr (fun k => if_neg he) ?_
    have hpos : 0 < s.size := by
      rcases Nat.eq_zero_or_pos s.size with h | h
      · exfalso; apply he
        rw [ByteArray.toList_eq]
        have : s.data.toList.length = 0 := by rw [Array.length_toList]; exact h
        exact List.eq_nil_of_length_eq_zero this
      · exact h
    have hh := fun r => moHit_iff s r
    by_cases h3 : moHit s 3 = true
    · rw [if_pos h3]
      obtain ⟨h36, p3⟩ := (hh 3).1 h3
      have z3 := PN_size (Nat.div_le_self _ _) p3
      refine of_rows s hs (m := s.size / 3) (by omega) (by omega) (fun n t a b c d hp => ?_) ?_ (s.size / 3 - 1) 1 rfl (by omega) (by omega)
      · have z := PN_size (by omega) hp
        have : t = 1 ∨ t = 2 ∨ t = 3 := by omega
        rcases this with rfl | rfl | rfl <;> omega
      · refine of_enter s hs h36 (by omega) (of_step s hs (t := 1) (by omega) (by omega) (by omega) (fun hp => ?_) (of_step s hs (t := 2) (by omega) (by omega) (by omega) (fun hp => ?_) (of_hit s hs (t := 3) (by omega) (by omega) (by omega) p3)))
        · have z := PN_size (by omega) hp; omega
        · have z := PN_size (by omega) hp; omega
    · rw [if_neg h3]
      have n3 : ∀ n, 1 ≤ n → n ≤ 6 → n ≤ s.size → ¬ PN s n 3 := fun n a b c hp => h3 ((hh 3).2 (by
        have z := PN_size c hp
        have e : s.size / 3 = n := by omega
        rw [e]; exact ⟨b, hp⟩))
      by_cases h2 : moHit s 2 = true
      · rw [if_pos h2]
        obtain ⟨h26, p2⟩ := (hh 2).1 h2
        have z2 := PN_size (Nat.div_le_self _ _) p2
        refine of_rows s hs (m := s.size / 2) (by omega) (by omega) (fun n t a b c d hp => ?_) ?_ (s.size / 2 - 1) 1 rfl (by omega) (by omega)
        · have z := PN_size (by omega) hp
          have : t = 1 ∨ t = 2 ∨ t = 3 := by omega
          rcases this with rfl | rfl | rfl
          · omega
          · omega
          · exact n3 n a (by omega) (by omega) hp
        · refine of_enter s hs h26 (by omega) (of_step s hs (t := 1) (by omega) (by omega) (by omega) (fun hp => ?_) (of_hit s hs (t := 2) (by omega) (by omega) (by omega) p2))
          have z := PN_size (by omega) hp; omega
      · rw [if_neg h2]
        have n2 : ∀ n, 1 ≤ n → n ≤ 6 → n ≤ s.size → ¬ PN s n 2 := fun n a b c hp => h2 ((hh 2).2 (by
          have z := PN_size c hp
          have e : s.size / 2 = n := by omega
          rw [e]; exact ⟨b, hp⟩))
        by_cases h1 : moHit s 1 = true
        · rw [if_pos h1]
          obtain ⟨h16, p1⟩ := (hh 1).1 h1
          rw [Nat.div_one] at h16 p1
          have e : moCut s 1 = s.extract 0 s.size := by unfold moCut; rw [Nat.div_one]
          rw [e]
          refine of_rows s hs (m := s.size) (by omega) (by omega) (fun n t a b c d hp => ?_) ?_ (s.size - 1) 1 rfl (by omega) (by omega)
          · have z := PN_size (by omega) hp
            have : t = 1 ∨ t = 2 ∨ t = 3 := by omega
            rcases this with rfl | rfl | rfl
            · omega
            · exact n2 n a (by omega) (by omega) hp
            · exact n3 n a (by omega) (by omega) hp
          · exact of_enter s hs h16 (by omega) (of_hit s hs (t := 1) (by omega) (by omega) (by omega) p1)
        · rw [if_neg h1]
          have n1 : ∀ n, 1 ≤ n → n ≤ 6 → n ≤ s.size → ¬ PN s n 1 := fun n a b c hp => h1 ((hh 1).2 (by
            have z := PN_size c hp
            have e : s.size / 1 = n := by omega
            rw [e]; exact ⟨b, hp⟩))
          refine of_rows s hs (m := min 6 s.size + 1) (by omega) (by omega) (fun n t a b c d hp => ?_) (of_leave s hs (by omega)) (min 6 s.size) 1 (by omega) (by omega) (by omega)
          have : t = 1 ∨ t = 2 ∨ t = 3 := by omega
          rcases this with rfl | rfl | rfl
          · exact n1 n a (by omega) (by omega) hp
          · exact n2 n a (by omega) (by omega) hp
          · exact n3 n a (by omega) (by omega) hp
theorem impl_mo_from (a0 : ByteArray) (hs : a0.size ≤ 1000) (hc : ¬ a0.toList = []) : ∀ x : Nat, MoRel a0 x → Ev (fun k => impl_moveOf.l0 k a0 (x : Int)) (moV a0)
  | 0, h => by
    refine Ev.step (f := fun _ => some (moV a0)) (fun k => ?_) (Ev.now _)
    simp only [impl_moveOf.l0]
    rw [if_neg (by omega), moV_none hc h]
  | x + 1, h => by
    have h3 := h.1
    have hd := Nat.div_le_self a0.size (x + 1)
    have hnn : (0 : Int) ≤ ((a0.size / (x + 1) : Nat) : Int) := Int.natCast_nonneg _
    have hle : ((a0.size / (x + 1) : Nat) : Int) ≤ (a0.size : Int) := Int.ofNat_le.mpr hd
    have e : wrap64 (Int.tdiv (a0.size : Int) ((x + 1 : Nat) : Int)) = ((a0.size / (x + 1) : Nat) : Int) := by
      have e1 : Int.tdiv (a0.size : Int) ((x + 1 : Nat) : Int) = ((a0.size / (x + 1) : Nat) : Int) := (Int.ofNat_tdiv _ _).symm
      rw [e1]; exact w64_i (by omega) (by omega)
    have e0 : wrap64 (((x + 1 : Nat) : Int) - 1) = (x : Int) := by rw [w64_i (by omega) (by omega)]; omega
    obtain ⟨tt, e1, e2, e3⟩ := mo_parts a0 (x + 1) ⟨by omega, h3⟩ (by omega)
    cases hh : moHit a0 (x + 1)
    · refine Ev.step (f := fun k => impl_moveOf.l0 k a0 (x : Int)) (fun k => ?_) (impl_mo_from a0 hs hc x (moRel_step h hh))
      simp only [impl_moveOf.l0, e, e0, Int.toNat_natCast, e2, Option.bind_some]
      rw [if_pos (by omega), if_neg (by omega), if_pos hnn, if_pos hle]
      rw [hh] at e3
      by_cases h6 : ((a0.extract 0 (a0.size / (x + 1))).size : Int) ≤ 6
      · rw [if_pos h6]
        refine if_neg (fun hq => ?_)
        have : (moCut a0 (x + 1)).size ≤ 6 := by unfold moCut; omega
        rw [decide_eq_true this, hq, Bool.true_and] at e3
        simp at e3
      · rw [if_neg h6]
    · refine Ev.step (f := fun _ => some (moV a0)) (fun k => ?_) (Ev.now _)
      simp only [impl_moveOf.l0, e, e0, Int.toNat_natCast, e2, Option.bind_some]
      rw [if_pos (by omega), if_neg (by omega), if_pos hnn, if_pos hle]
      rw [hh] at e3
      have e4 := e3.symm
      rw [Bool.and_eq_true, decide_eq_true_eq, beq_iff_eq] at e4
      have h6 : ((a0.extract 0 (a0.size / (x + 1))).size : Int) ≤ 6 := by have := e4.1; unfold moCut at this; omega
      rw [if_pos h6, if_pos e4.2, moV_hit hc h (by omega) hh]
      rfl
theorem impl_moveOf_ev (s : ByteArray) (hs : s.size ≤ 1000) : Ev (fun k => impl_moveOf.f k s) (moV s) := by
  unfold impl_moveOf.f
  by_cases hc : s.toList = ([] : List UInt8)
  · simp only [if_pos hc]
    have : moV s = (⟨#[]⟩, 1, true) := by unfold moV; rw [if_pos hc]
    rw [this]; exact Ev.now _
  · simp only [if_neg hc]
    exact impl_mo_from s hs hc 3 ⟨by omega, fun r h1 h2 => by omega⟩
end Go.Proofs.YtojfncpjgpklhaaGreatDoor.PA

namespace Go.Proofs.YtojfncpjgpklhaaGreatDoor.PA
open Go.RowKit Go.Proofs.YtojfncpjgpklhaaGreatDoorW.PrintWords Go.Proofs.YtojfncpjgpklhaaGreatDoorW.PrintLast Go.Proofs.YtojfncpjgpklhaaGreatDoorW.PrintMore
set_option linter.unusedVariables false
set_option linter.unusedSimpArgs false
theorem ten (p : Int) (h : 0 ≤ p ∧ p < 10) : p = 0 ∨ p = 1 ∨ p = 2 ∨ p = 3 ∨ p = 4 ∨ p = 5 ∨ p = 6 ∨ p = 7 ∨ p = 8 ∨ p = 9 := by omega
theorem it_some (v : Int) (h : 0 ≤ v ∧ v < 10) : strconv_Itoa.f v = some (itT v) := by
  unfold strconv_Itoa.f; rw [if_pos (by omega)]
theorem it_size (v : Int) (h : 0 ≤ v ∧ v < 10) : (itT v).size = 1 := by
  rcases ten v h with rfl | rfl | rfl | rfl | rfl | rfl | rfl | rfl | rfl | rfl <;> kernel_rfl
theorem l1_ev (v : Int) (h : 0 ≤ v ∧ v < 10) : Ev (fun k => spec_l1Num.f k v) (itT v) := by
  refine Ev.step (f := fun _ => some (itT v)) (fun k => ?_) (Ev.now _)
  rcases ten v h with rfl | rfl | rfl | rfl | rfl | rfl | rfl | rfl | rfl | rfl <;> kernel_rfl
section
variable (t i m r l : Int) (s : Bool) (p f g d : Int) (c : Bool) (b : ByteArray) (n : Int) (w : Bool) (t' i' m' r' l' : Int) (s' : Bool) (p' f' g' d' : Int) (c' : Bool) (b' : ByteArray) (n' : Int)
/-- The text of a shape. -/
def shTxt : ByteArray := if s = true then ((((itT t ++ itT i) ++ itT m) ++ itT r) ++ itT l) ++ (⟨#[115]⟩ : ByteArray) else (((itT t ++ itT i) ++ itT m) ++ itT r) ++ itT l
theorem app_size (x y : ByteArray) : (x ++ y).size = x.size + y.size := ByteArray.size_append
theorem spec_sh_step (x : ByteArray) (L : List Int) (j : Nat) (hj : j < L.length) (hL : L.length ≤ 1000) (hv : 0 ≤ L[j] ∧ L[j] < 10) (hx : x.size ≤ 1000) {out : ByteArray}
    (h : Ev (fun k => spec_shText.l0 k (x ++ itT L[j]) L (L.length : Int) ((j + 1 : Nat) : Int) t i m r l s) out) : Ev (fun k => spec_shText.l0 k x L (L.length : Int) (j : Int) t i m r l s) out := by
  refine Ev.step (f := fun k => (spec_l1Num.f k L[j]).bind fun y => if x.size + y.size ≤ 9223372036854775807 then spec_shText.l0 k (x ++ y) L (L.length : Int) ((j + 1 : Nat) : Int) t i m r l s else none) (fun k => ?_) ?_
  · simp only [spec_shText.l0, w64_succ (show j < 9223372036854775807 by omega), rd_at L j hj]
    rw [if_pos (by omega), if_pos (by omega), if_pos (by omega)]
  · exact Ev.bind (l1_ev _ hv) (Ev.congr (fun k => if_pos (by rw [it_size _ hv]; omega)) h)
theorem impl_sh_step (x : ByteArray) (L : List Int) (j : Nat) (hj : j < L.length) (hL : L.length ≤ 1000) (hv : 0 ≤ L[j] ∧ L[j] < 10) (hx : x.size ≤ 1000) {out : ByteArray}
    (h : Ev (fun k => impl_Shape_text.l0 k (x ++ itT L[j]) L (L.length : Int) ((j + 1 : Nat) : Int) t i m r l s) out) : Ev (fun k => impl_Shape_text.l0 k x L (L.length : Int) (j : Int) t i m r l s) out := by
  refine Ev.step (f := fun k => impl_Shape_text.l0 k (x ++ itT L[j]) L (L.length : Int) ((j + 1 : Nat) : Int) t i m r l s) (fun k => ?_) h
  simp only [impl_Shape_text.l0, w64_succ (show j < 9223372036854775807 by omega), rd_at L j hj, it_some _ hv, Option.bind_some]
  rw [if_pos (by omega), if_pos (by omega), if_pos (by omega), if_pos (by rw [it_size _ hv]; omega)]
theorem spec_sh_end (x : ByteArray) (L : List Int) (j : Nat) (hj : L.length ≤ j) (hx : x.size ≤ 1000) : Ev (fun k => spec_shText.l0 k x L (L.length : Int) (j : Int) t i m r l s) (if s = true then x ++ (⟨#[115]⟩ : ByteArray) else x) := by
  refine Ev.step (f := fun k => some (if s = true then x ++ (⟨#[115]⟩ : ByteArray) else x)) (fun k => ?_) (Ev.now _)
  simp only [spec_shText.l0]
  rw [if_neg (by omega), if_pos (show x.size + 1 ≤ 9223372036854775807 by omega)]
  cases s <;> rfl
theorem impl_sh_end (x : ByteArray) (L : List Int) (j : Nat) (hj : L.length ≤ j) (hx : x.size ≤ 1000) : Ev (fun k => impl_Shape_text.l0 k x L (L.length : Int) (j : Int) t i m r l s) (if s = true then x ++ (⟨#[115]⟩ : ByteArray) else x) := by
  refine Ev.step (f := fun k => some (if s = true then x ++ (⟨#[115]⟩ : ByteArray) else x)) (fun k => ?_) (Ev.now _)
  simp only [impl_Shape_text.l0]
  rw [if_neg (by omega), if_pos (show x.size + 1 ≤ 9223372036854775807 by omega)]
  cases s <;> rfl
theorem shTxt_size (ht : 0 ≤ t ∧ t < 10) (hi : 0 ≤ i ∧ i < 10) (hm : 0 ≤ m ∧ m < 10) (hr : 0 ≤ r ∧ r < 10) (hl : 0 ≤ l ∧ l < 10) : (shTxt t i m r l s).size ≤ 6 := by
  unfold shTxt
  split <;> simp only [app_size, it_size _ ht, it_size _ hi, it_size _ hm, it_size _ hr, it_size _ hl] <;> decide
theorem spec_sh_ev (ht : 0 ≤ t ∧ t < 10) (hi : 0 ≤ i ∧ i < 10) (hm : 0 ≤ m ∧ m < 10) (hr : 0 ≤ r ∧ r < 10) (hl : 0 ≤ l ∧ l < 10) : Ev (fun k => spec_shText.f k t i m r l s) (shTxt t i m r l s) := by
  unfold spec_shText.f
  refine Ev.bind (l1_ev t ht) ?_
  simp only [spec_shFingers.f, Option.bind_some]
  have z := it_size
  refine spec_sh_step _ _ _ _ _ _ (itT t) [i, m, r, l] 0 (by simp) (by simp) hi (by rw [z _ ht]; decide) ?_
  refine spec_sh_step _ _ _ _ _ _ _ [i, m, r, l] 1 (by simp) (by simp) hm (by rw [app_size, z _ ht]; exact (by rw [show ([i, m, r, l] : List Int)[0] = i from rfl, z _ hi]; decide)) ?_
  refine spec_sh_step _ _ _ _ _ _ _ [i, m, r, l] 2 (by simp) (by simp) hr (by show ((itT t ++ itT i) ++ itT m).size ≤ 1000; rw [app_size, app_size, z _ ht, z _ hi, z _ hm]; decide) ?_
  refine spec_sh_step _ _ _ _ _ _ _ [i, m, r, l] 3 (by simp) (by simp) hl (by show (((itT t ++ itT i) ++ itT m) ++ itT r).size ≤ 1000; rw [app_size, app_size, app_size, z _ ht, z _ hi, z _ hm, z _ hr]; decide) ?_
  exact spec_sh_end _ _ _ _ _ _ ((((itT t ++ itT i) ++ itT m) ++ itT r) ++ itT l) [i, m, r, l] 4 (by simp) (by rw [app_size, app_size, app_size, app_size, z _ ht, z _ hi, z _ hm, z _ hr, z _ hl]; decide)
theorem impl_sh_ev (ht : 0 ≤ t ∧ t < 10) (hi : 0 ≤ i ∧ i < 10) (hm : 0 ≤ m ∧ m < 10) (hr : 0 ≤ r ∧ r < 10) (hl : 0 ≤ l ∧ l < 10) : Ev (fun k => impl_Shape_text.f k t i m r l s) (shTxt t i m r l s) := by
  unfold impl_Shape_text.f
  simp only [impl_Shape_bends.f, it_some _ ht, Option.bind_some]
  have z := it_size
  refine impl_sh_step _ _ _ _ _ _ (itT t) [i, m, r, l] 0 (by simp) (by simp) hi (by rw [z _ ht]; decide) ?_
  refine impl_sh_step _ _ _ _ _ _ _ [i, m, r, l] 1 (by simp) (by simp) hm (by show (itT t ++ itT i).size ≤ 1000; rw [app_size, z _ ht, z _ hi]; decide) ?_
  refine impl_sh_step _ _ _ _ _ _ _ [i, m, r, l] 2 (by simp) (by simp) hr (by show ((itT t ++ itT i) ++ itT m).size ≤ 1000; rw [app_size, app_size, z _ ht, z _ hi, z _ hm]; decide) ?_
  refine impl_sh_step _ _ _ _ _ _ _ [i, m, r, l] 3 (by simp) (by simp) hl (by show (((itT t ++ itT i) ++ itT m) ++ itT r).size ≤ 1000; rw [app_size, app_size, app_size, z _ ht, z _ hi, z _ hm, z _ hr]; decide) ?_
  exact impl_sh_end _ _ _ _ _ _ ((((itT t ++ itT i) ++ itT m) ++ itT r) ++ itT l) [i, m, r, l] 4 (by simp) (by rw [app_size, app_size, app_size, app_size, z _ ht, z _ hi, z _ hm, z _ hr, z _ hl]; decide)
/-- The text of an orientation. -/
def orTxt : ByteArray := ((⟨#[117, 100, 108, 114, 102, 98]⟩ : ByteArray).extract p.toNat (p.toNat + 1)) ++ ((⟨#[117, 100, 108, 114, 102, 98]⟩ : ByteArray).extract f.toNat (f.toNat + 1))
theorem or_txt (hp : 0 ≤ p ∧ p ≤ 5) (hf : 0 ≤ f ∧ f ≤ 5) : spec_orText.f p f = some (orTxt p f) ∧ impl_Orient_text.f p f = some (orTxt p f) ∧ (orTxt p f).size = 2 := by
  rcases six p hp with rfl | rfl | rfl | rfl | rfl | rfl <;> rcases six f hf with rfl | rfl | rfl | rfl | rfl | rfl <;> exact ⟨by kernel_rfl, by kernel_rfl, by kernel_rfl⟩
/-- The text of a place. -/
def plTxt : ByteArray := plNms.getD g.toNat ⟨#[]⟩ ++ plSide d ++ (if c = true then ⟨#[42]⟩ else ⟨#[]⟩)
theorem pl_txt (hg : 0 ≤ g ∧ g ≤ 9) (hd : -1 ≤ d ∧ d ≤ 1) : spec_plText.f g d c = some (plTxt g d c) ∧ impl_Place_text.f g d c = some (plTxt g d c) ∧ (plTxt g d c).size ≤ 7 := by
  refine ⟨?_, ?_, ?_⟩
  · rcases ten g (by omega) with rfl | rfl | rfl | rfl | rfl | rfl | rfl | rfl | rfl | rfl <;> rcases (show d = -1 ∨ d = 0 ∨ d = 1 by omega) with rfl | rfl | rfl <;> cases c <;> kernel_rfl
  · unfold impl_Place_text.f plTxt; rw [if_pos (by omega)]
  · rcases ten g (by omega) with rfl | rfl | rfl | rfl | rfl | rfl | rfl | rfl | rfl | rfl <;> rcases (show d = -1 ∨ d = 0 ∨ d = 1 by omega) with rfl | rfl | rfl <;> cases c <;> decide
/-- The text of a move. -/
def mvTxt : ByteArray := if b.toList = ([] : List UInt8) then (⟨#[45]⟩ : ByteArray) else if n > 1 then (b ++ (⟨#[42]⟩ : ByteArray)) ++ itT n else b
theorem mvTxt_size (hb : b.size ≤ 1000) (hn : b.toList = [] ∨ (1 ≤ n ∧ n < 10)) : (mvTxt b n).size ≤ 1002 := by
  unfold mvTxt
  split
  · decide
  · rename_i h0
    have hn := hn.resolve_left h0
    split
    · rw [app_size, app_size, it_size n (by omega)]
      have : (⟨#[42]⟩ : ByteArray).size = 1 := rfl
      omega
    · omega
theorem spec_mv_txt (hb : b.size ≤ 1000) (hn : b.toList = [] ∨ (1 ≤ n ∧ n < 10)) : Ev (fun k => spec_mvText.f k b n) (mvTxt b n) := by
  unfold spec_mvText.f mvTxt
  by_cases h : b.toList = ([] : List UInt8)
  · simp only [if_pos h]; exact Ev.now _
  · simp only [if_neg h]
    have hn := hn.resolve_left h
    by_cases h2 : n > 1
    · simp only [if_pos h2, if_pos (show b.size + 1 ≤ 9223372036854775807 by omega)]
      refine Ev.bind (l1_ev n (by omega)) (Ev.congr (f := fun _ => some _) (fun k => if_pos ?_) (Ev.now _))
      rw [app_size, it_size n (by omega)]
      have : (⟨#[42]⟩ : ByteArray).size = 1 := rfl
      omega
    · simp only [if_neg h2]; exact Ev.now _
theorem impl_mv_txt (hb : b.size ≤ 1000) (hn : b.toList = [] ∨ (1 ≤ n ∧ n < 10)) : impl_Move_text.f b n = some (mvTxt b n) := by
  unfold impl_Move_text.f mvTxt
  by_cases h : b.toList = ([] : List UInt8)
  · simp only [if_pos h]
  · simp only [if_neg h]
    have hn := hn.resolve_left h
    by_cases h2 : n > 1
    · have : (⟨#[42]⟩ : ByteArray).size = 1 := rfl
      rw [if_pos h2, if_neg (show ¬ n = 1 by omega), if_pos (by omega), it_some n (by omega)]
      simp only [Option.bind_some]
      rw [if_pos (by rw [app_size, it_size n (by omega)]; omega)]
    · rw [if_neg h2, if_pos (show n = 1 by omega)]
/-- The text of a hand. -/
def hdTxt : ByteArray := (((((shTxt t i m r l s ++ (⟨#[47]⟩ : ByteArray)) ++ orTxt p f) ++ (⟨#[47]⟩ : ByteArray)) ++ plTxt g d c) ++ (⟨#[47]⟩ : ByteArray)) ++ mvTxt b n
/-- What a hand's text needs. -/
def TxOK : Prop := ((0 ≤ t ∧ t < 10) ∧ (0 ≤ i ∧ i < 10) ∧ (0 ≤ m ∧ m < 10) ∧ (0 ≤ r ∧ r < 10) ∧ (0 ≤ l ∧ l < 10)) ∧ ((0 ≤ p ∧ p ≤ 5) ∧ (0 ≤ f ∧ f ≤ 5)) ∧ ((0 ≤ g ∧ g ≤ 9) ∧ (-1 ≤ d ∧ d ≤ 1)) ∧ b.size ≤ 1000 ∧ (b.toList = [] ∨ (1 ≤ n ∧ n < 10))
theorem hdOK_tx (h : hdOK t i m r l s p f g d c b n = true) : TxOK t i m r l p f g d b n := by
  unfold hdOK at h
  rw [Bool.and_eq_true, Bool.and_eq_true, Bool.and_eq_true] at h
  obtain ⟨h1, h2, h3, h4⟩ := h
  have a := shOK_in h1
  have e := mvOK_parts h4
  unfold orOK at h2
  unfold plOK at h3
  rw [Bool.and_eq_true, Bool.and_eq_true, decide_eq_true_eq, decide_eq_true_eq] at h2
  rw [Bool.and_eq_true, Bool.and_eq_true, decide_eq_true_eq, decide_eq_true_eq] at h3
  exact ⟨⟨by omega, by omega, by omega, by omega, by omega⟩, ⟨h2.1, h2.2.1⟩, ⟨h3.1, h3.2.1⟩, by omega, .inr (by omega)⟩
theorem hdTxt_size (h : TxOK t i m r l p f g d b n) : (hdTxt t i m r l s p f g d c b n).size ≤ 1100 := by
  obtain ⟨⟨h1, h2, h3, h4, h5⟩, ⟨h6, h7⟩, ⟨h8, h9⟩, h10, h11⟩ := h
  have a := shTxt_size t i m r l s h1 h2 h3 h4 h5
  have e := (or_txt p f h6 h7).2.2
  have e2 := (pl_txt g d c h8 h9).2.2
  have e3 := mvTxt_size b n h10 h11
  have : (⟨#[47]⟩ : ByteArray).size = 1 := rfl
  unfold hdTxt
  simp only [app_size]
  omega
theorem spec_hd_txt (h : TxOK t i m r l p f g d b n) : Ev (fun k => spec_siText.f k t i m r l s p f g d c b n) (hdTxt t i m r l s p f g d c b n) := by
  obtain ⟨⟨h1, h2, h3, h4, h5⟩, ⟨h6, h7⟩, ⟨h8, h9⟩, h10, h11⟩ := h
  have a := shTxt_size t i m r l s h1 h2 h3 h4 h5
  obtain ⟨e1, _, e⟩ := or_txt p f h6 h7
  obtain ⟨e4, _, e2⟩ := pl_txt g d c h8 h9
  have e3 := mvTxt_size b n h10 h11
  have z : (⟨#[47]⟩ : ByteArray).size = 1 := rfl
  unfold spec_siText.f hdTxt
  refine Ev.bind (spec_sh_ev t i m r l s h1 h2 h3 h4 h5) ?_
  simp only [e1, e4, Option.bind_some]
  generalize shTxt t i m r l s = A at a ⊢
  generalize orTxt p f = B at e ⊢
  generalize plTxt g d c = C at e2 ⊢
  have q := spec_mv_txt b n h10 h11
  generalize mvTxt b n = D at e3 q ⊢
  simp only [app_size, z, e, if_pos (show A.size + 1 ≤ 9223372036854775807 by omega), if_pos (show A.size + 1 + 2 ≤ 9223372036854775807 by omega), if_pos (show A.size + 1 + 2 + 1 ≤ 9223372036854775807 by omega), if_pos (show A.size + 1 + 2 + 1 + C.size ≤ 9223372036854775807 by omega), if_pos (show A.size + 1 + 2 + 1 + C.size + 1 ≤ 9223372036854775807 by omega)]
  exact Ev.bind q (Ev.congr (f := fun _ => some _) (fun k => if_pos (by omega)) (Ev.now _))
theorem join4 (A B C D : ByteArray) : Lib.join ([A, B, C, D].map (·.data.toList)) (⟨#[47]⟩ : ByteArray).data.toList = ((((((A ++ (⟨#[47]⟩ : ByteArray)) ++ B) ++ (⟨#[47]⟩ : ByteArray)) ++ C) ++ (⟨#[47]⟩ : ByteArray)) ++ D).data.toList := by
  simp [Lib.join, Lib.joinTail]
theorem join4_some (A B C D : ByteArray) (h : A.size + B.size + C.size + D.size ≤ 10000) : strings_Join.f [A, B, C, D] (⟨#[47]⟩ : ByteArray) = some (((((((A ++ (⟨#[47]⟩ : ByteArray)) ++ B) ++ (⟨#[47]⟩ : ByteArray)) ++ C) ++ (⟨#[47]⟩ : ByteArray)) ++ D)) := by
  unfold strings_Join.f
  rw [join4]
  have z : (⟨#[47]⟩ : ByteArray).size = 1 := rfl
  have e : ∀ X : ByteArray, X.data.toList.length = X.size := fun X => Array.length_toList
  rw [if_pos ⟨by simp, by rw [e]; simp only [app_size, z]; omega⟩]
theorem impl_hd_txt (h : TxOK t i m r l p f g d b n) : Ev (fun k => impl_Hand_text.f k t i m r l s p f g d c b n) (hdTxt t i m r l s p f g d c b n) := by
  have hz := hdTxt_size t i m r l s p f g d c b n h
  obtain ⟨⟨h1, h2, h3, h4, h5⟩, ⟨h6, h7⟩, ⟨h8, h9⟩, h10, h11⟩ := h
  unfold impl_Hand_text.f
  refine Ev.bind (impl_sh_ev t i m r l s h1 h2 h3 h4 h5) ?_
  simp only [(or_txt p f h6 h7).2.1, (pl_txt g d c h8 h9).2.1, impl_mv_txt b n h10 h11, Option.bind_some]
  unfold hdTxt at hz ⊢
  simp only [app_size] at hz
  rw [join4_some _ _ _ _ (by omega)]
  exact Ev.now _
theorem sgOK_tx (h : sgOK t i m r l s p f g d c b n w t' i' m' r' l' s' p' f' g' d' c' b' n' = true) : TxOK t i m r l p f g d b n ∧ (w = true → TxOK t' i' m' r' l' p' f' g' d' b' n') := by
  unfold sgOK at h
  rw [Bool.and_eq_true] at h
  refine ⟨hdOK_tx t i m r l s p f g d c b n h.1, fun e => ?_⟩
  subst e
  have h2 := h.2
  simp only [if_true, Bool.and_eq_true] at h2
  exact hdOK_tx t' i' m' r' l' s' p' f' g' d' c' b' n' h2.1
end
end Go.Proofs.YtojfncpjgpklhaaGreatDoor.PA

namespace Go.Proofs.YtojfncpjgpklhaaGreatDoor.PA
open Go.RowKit Go.Proofs.YtojfncpjgpklhaaGreatDoorW.PrintWords Go.Proofs.YtojfncpjgpklhaaGreatDoorW.PrintLast Go.Proofs.YtojfncpjgpklhaaGreatDoorW.PrintMore
theorem eq_hand (t i m r l : Int) (s : Bool) (p f g d : Int) (c : Bool) (b : ByteArray) (n : Int) : laws_eqHand.f t i m r l s p f g d c b n t i m r l s p f g d c b n = some true := by
  have e1 : laws_eqShape.f t i m r l s t i m r l s = some true := by unfold laws_eqShape.f; simp
  have e2 : laws_eqOrient.f p f p f = some true := by unfold laws_eqOrient.f; simp
  have e3 : laws_eqPlace.f g d c g d c = some true := by unfold laws_eqPlace.f; simp
  have e4 : laws_eqMove.f b n b n = some true := by unfold laws_eqMove.f; simp
  unfold laws_eqHand.f
  simp only [e1, e2, e3, e4, Option.bind_some, if_true]
theorem eq_sign (t i m r l : Int) (s : Bool) (p f g d : Int) (c : Bool) (b : ByteArray) (n : Int) (w : Bool) (t' i' m' r' l' : Int) (s' : Bool) (p' f' g' d' : Int) (c' : Bool) (b' : ByteArray) (n' : Int) : laws_eqSign.f t i m r l s p f g d c b n w t' i' m' r' l' s' p' f' g' d' c' b' n' t i m r l s p f g d c b n w t' i' m' r' l' s' p' f' g' d' c' b' n' = some true := by
  unfold laws_eqSign.f
  simp only [eq_hand, Option.bind_some, if_true, beq_self_eq_true]
/-- No sign. -/
abbrev SgT := Int × Int × Int × Int × Int × Bool × Int × Int × Int × Int × Bool × ByteArray × Int × Bool × Int × Int × Int × Int × Int × Bool × Int × Int × Int × Int × Bool × ByteArray × Int × Bool
def sgZ : SgT := (0, 0, 0, 0, 0, false, 0, 0, 0, 0, false, (⟨#[]⟩ : ByteArray), 0, false, 0, 0, 0, 0, 0, false, 0, 0, 0, 0, false, (⟨#[]⟩ : ByteArray), 0, false)
end Go.Proofs.YtojfncpjgpklhaaGreatDoor.PA

namespace Go.Proofs.YtojfncpjgpklhaaGreatDoor.PA
open Go.RowKit Go.Proofs.YtojfncpjgpklhaaGreatDoorW.PrintWords Go.Proofs.YtojfncpjgpklhaaGreatDoorW.PrintLast Go.Proofs.YtojfncpjgpklhaaGreatDoorW.PrintMore
set_option linter.unusedVariables false
set_option linter.unusedSimpArgs false
/-- The normal form of a move. -/
def nb (b : ByteArray) (n : Int) : ByteArray := (moV (mvSt b n)).1
def nn (b : ByteArray) (n : Int) : Int := (moV (mvSt b n)).2.1
theorem st_size {b : ByteArray} {n : Int} (h : b.size ≤ 6 ∧ 0 ≤ n ∧ n ≤ 3) : (mvSt b n).size ≤ 18 := by
  unfold mvSt; rw [rep_size]
  have : n.toNat ≤ 3 := by omega
  exact Nat.mul_le_mul this h.1
theorem moV_parts (s : ByteArray) : (moV s).1.size ≤ s.size ∧ ((moV s).1.toList = [] ∨ (1 ≤ (moV s).2.1 ∧ (moV s).2.1 < 10)) := by
  have c := fun r => moCut_size s r
  unfold moV
  split
  · exact ⟨Nat.zero_le _, .inl nilL⟩
  · split
    · exact ⟨by show (moCut s 3).size ≤ _; rw [c]; omega, .inr ⟨(by decide : (1 : Int) ≤ 3), (by decide : (3 : Int) < 10)⟩⟩
    · split
      · exact ⟨by show (moCut s 2).size ≤ _; rw [c]; omega, .inr ⟨(by decide : (1 : Int) ≤ 2), (by decide : (2 : Int) < 10)⟩⟩
      · split
        · exact ⟨by show (moCut s 1).size ≤ _; rw [c]; omega, .inr ⟨(by decide : (1 : Int) ≤ 1), (by decide : (1 : Int) < 10)⟩⟩
        · exact ⟨Nat.zero_le _, .inl nilL⟩
theorem spec_mvN_ev {b : ByteArray} {n : Int} (h : b.size ≤ 6 ∧ 0 ≤ n ∧ n ≤ 3) : Ev (fun k => spec_mvNormal.f k b n) (nb b n, nn b n) := by
  unfold spec_mvNormal.f
  exact Ev.bind (spec_all_ev h.1 h.2.1 h.2.2) (Ev.bind (spec_mvOf_ev _ (by have := st_size h; omega)) (Ev.now _))
theorem impl_mvN_ev {b : ByteArray} {n : Int} (h : b.size ≤ 6 ∧ 0 ≤ n ∧ n ≤ 3) : Ev (fun k => impl_Move_normal.f k b n) (nb b n, nn b n) := by
  unfold impl_Move_normal.f
  simp only [impl_all' h.1 h.2.1 h.2.2, Option.bind_some]
  exact Ev.bind (impl_moveOf_ev _ (by have := st_size h; omega)) (Ev.now _)
section
variable (t i m r l : Int) (s : Bool) (p f g d : Int) (c : Bool) (b : ByteArray) (n : Int) (w : Bool) (t' i' m' r' l' : Int) (s' : Bool) (p' f' g' d' : Int) (c' : Bool) (b' : ByteArray) (n' : Int)
/-- What a hand's normal form needs. -/
def NfOK : Prop := ((0 ≤ t ∧ t < 10) ∧ (0 ≤ i ∧ i < 10) ∧ (0 ≤ m ∧ m < 10) ∧ (0 ≤ r ∧ r < 10) ∧ (0 ≤ l ∧ l < 10)) ∧ ((0 ≤ p ∧ p ≤ 5) ∧ (0 ≤ f ∧ f ≤ 5)) ∧ ((0 ≤ g ∧ g ≤ 9) ∧ (-1 ≤ d ∧ d ≤ 1)) ∧ b.size ≤ 6 ∧ 0 ≤ n ∧ n ≤ 3
theorem nf_tx (h : NfOK t i m r l p f g d b n) : TxOK t i m r l p f g d (nb b n) (nn b n) := by
  have e := moV_parts (mvSt b n)
  have z := st_size h.2.2.2
  exact ⟨h.1, h.2.1, h.2.2.1, by have := e.1; unfold nb; omega, e.2⟩
theorem hdOK_nf (h : hdOK t i m r l s p f g d c b n = true) : NfOK t i m r l p f g d b n := by
  have a := hdOK_tx t i m r l s p f g d c b n h
  exact ⟨a.1, a.2.1, a.2.2.1, hdOK_mv h⟩
/-- The kind. -/
def sgKind : Int := if w = true then (if b'.toList = ([] : List UInt8) then (if shEq t i m r l s t' i' m' r' l' s' = true then 2 else 3) else 1) else 0
theorem spec_kind : spec_siKind.f t i m r l s p f g d c b n w t' i' m' r' l' s' p' f' g' d' c' b' n' = some (sgKind t i m r l s w t' i' m' r' l' s' b') := by
  unfold spec_siKind.f sgKind
  show (if w = true then (if b'.toList = ([] : List UInt8) then (if shEq t i m r l s t' i' m' r' l' s' = true then _ else _) else _) else _) = _
  split <;> (try split) <;> (try split) <;> rfl
theorem impl_kind : impl_Sign_kind.f t i m r l s p f g d c b n w t' i' m' r' l' s' p' f' g' d' c' b' n' = some (sgKind t i m r l s w t' i' m' r' l' s' b') := by
  unfold impl_Sign_kind.f sgKind
  simp only [impl_moves, Option.bind_some]
  show (if w = true then (if _ then _ else (if shEq t' i' m' r' l' s' t i m r l s = true then _ else _)) else _) = _
  rw [shEq_comm t' i' m' r' l' s']
  cases w <;> by_cases h : b'.toList = ([] : List UInt8) <;> cases shEq t i m r l s t' i' m' r' l' s' <;> simp [h]
/-- The normal form of a sign. -/
abbrev SgN := Int × Int × Int × Int × Int × Bool × Int × Int × Int × Int × Bool × ByteArray × Int × Bool × Int × Int × Int × Int × Int × Bool × Int × Int × Int × Int × Bool × ByteArray × Int
def noV : SgN := if w = true then (if sgKind t i m r l s true t' i' m' r' l' s' (nb b' n') = 1 then (if (Op.bytesLess (hdTxt t' i' m' r' l' s' p' f' g' d' c' (nb b' n') (nn b' n')).toList (hdTxt t i m r l s p f g d c (nb b n) (nn b n)).toList) = true then (t', i', m', r', l', s', p', f', g', d', c', nb b' n', nn b' n', true, t, i, m, r, l, s, p, f, g, d, c, nb b n, nn b n) else (t, i, m, r, l, s, p, f, g, d, c, nb b n, nn b n, true, t', i', m', r', l', s', p', f', g', d', c', nb b' n', nn b' n')) else (t, i, m, r, l, s, p, f, g, d, c, nb b n, nn b n, true, t', i', m', r', l', s', p', f', g', d', c', nb b' n', nn b' n')) else (t, i, m, r, l, s, p, f, g, d, c, nb b n, nn b n, false, 0, 0, 0, 0, 0, false, 0, 0, 0, 0, false, (⟨#[]⟩ : ByteArray), 0)
theorem spec_hdN_ev (h : NfOK t i m r l p f g d b n) : Ev (fun k => spec_noHand.f k t i m r l s p f g d c b n) (t, i, m, r, l, s, p, f, g, d, c, nb b n, nn b n) := by
  unfold spec_noHand.f
  exact Ev.bind (spec_mvN_ev h.2.2.2) (Ev.now _)
theorem impl_hdN_ev (h : NfOK t i m r l p f g d b n) : Ev (fun k => impl_Hand_normal.f k t i m r l s p f g d c b n) (t, i, m, r, l, s, p, f, g, d, c, nb b n, nn b n) := by
  unfold impl_Hand_normal.f
  exact Ev.bind (impl_mvN_ev h.2.2.2) (Ev.now _)
theorem spec_norm_ev (h : NfOK t i m r l p f g d b n) (h' : w = true → NfOK t' i' m' r' l' p' f' g' d' b' n') : Ev (fun k => spec_noForm.f k t i m r l s p f g d c b n w t' i' m' r' l' s' p' f' g' d' c' b' n') (noV t i m r l s p f g d c b n w t' i' m' r' l' s' p' f' g' d' c' b' n') := by
  unfold spec_noForm.f noV
  refine Ev.bind (spec_hdN_ev t i m r l s p f g d c b n h) ?_
  cases w
  · simp only [Bool.false_eq_true, if_false]; exact Ev.now _
  · simp only [if_true]
    refine Ev.bind (spec_hdN_ev t' i' m' r' l' s' p' f' g' d' c' b' n' (h' rfl)) ?_
    simp only [spec_kind, Option.bind_some]
    have q := spec_hd_txt t i m r l s p f g d c (nb b n) (nn b n) (nf_tx t i m r l p f g d b n h)
    have q' := spec_hd_txt t' i' m' r' l' s' p' f' g' d' c' (nb b' n') (nn b' n') (nf_tx t' i' m' r' l' p' f' g' d' b' n' (h' rfl))
    by_cases hk : sgKind t i m r l s true t' i' m' r' l' s' (nb b' n') = 1
    · simp only [if_pos hk]
      refine Ev.bind q' (Ev.bind q ?_)
      split <;> exact Ev.now _
    · simp only [if_neg hk]; exact Ev.now _
theorem bs_nil {b : ByteArray} (h : b.toList = []) : b = ⟨#[]⟩ := by
  rw [ByteArray.toList_eq] at h
  exact bs_ext (by rw [h])
theorem impl_norm_ev (h : NfOK t i m r l p f g d b n) (h' : w = true → NfOK t' i' m' r' l' p' f' g' d' b' n') (h0 : w = false → noHd t' i' m' r' l' s' p' f' g' d' c' b' n' = true) : Ev (fun k => impl_Sign_normal.f k t i m r l s p f g d c b n w t' i' m' r' l' s' p' f' g' d' c' b' n') (noV t i m r l s p f g d c b n w t' i' m' r' l' s' p' f' g' d' c' b' n') := by
  unfold impl_Sign_normal.f noV
  refine Ev.bind (impl_hdN_ev t i m r l s p f g d c b n h) ?_
  cases w
  · have h3 := h0 rfl
    unfold noHd at h3
    simp only [Bool.and_eq_true, beq_iff_eq, Bool.not_eq_true'] at h3
    obtain ⟨⟨rfl, rfl, rfl, rfl, rfl, rfl⟩, ⟨rfl, rfl⟩, ⟨rfl, rfl, rfl⟩, hbn, rfl⟩ := h3
    obtain rfl := bs_nil hbn
    simp only [Bool.false_eq_true, if_false]; exact Ev.now _
  · simp only [if_true]
    refine Ev.bind (impl_hdN_ev t' i' m' r' l' s' p' f' g' d' c' b' n' (h' rfl)) ?_
    simp only [impl_kind, Option.bind_some]
    have q := impl_hd_txt t i m r l s p f g d c (nb b n) (nn b n) (nf_tx t i m r l p f g d b n h)
    have q' := impl_hd_txt t' i' m' r' l' s' p' f' g' d' c' (nb b' n') (nn b' n') (nf_tx t' i' m' r' l' p' f' g' d' b' n' (h' rfl))
    by_cases hk : sgKind t i m r l s true t' i' m' r' l' s' (nb b' n') = 1
    · simp only [if_pos hk]
      refine Ev.bind q' (Ev.bind q ?_)
      split <;> exact Ev.now _
    · simp only [if_neg hk]; exact Ev.now _
theorem sgOK_nf (h : sgOK t i m r l s p f g d c b n w t' i' m' r' l' s' p' f' g' d' c' b' n' = true) : NfOK t i m r l p f g d b n ∧ (w = true → NfOK t' i' m' r' l' p' f' g' d' b' n') ∧ (w = false → noHd t' i' m' r' l' s' p' f' g' d' c' b' n' = true) := by
  unfold sgOK at h
  rw [Bool.and_eq_true] at h
  refine ⟨hdOK_nf t i m r l s p f g d c b n h.1, fun e => ?_, fun e => ?_⟩
  · subst e
    have h2 := h.2
    simp only [if_true, Bool.and_eq_true] at h2
    exact hdOK_nf t' i' m' r' l' s' p' f' g' d' c' b' n' h2.1
  · subst e
    simpa using h.2
end
end Go.Proofs.YtojfncpjgpklhaaGreatDoor.PA

namespace Go.Proofs.YtojfncpjgpklhaaGreatDoor.PA
open Go.RowKit Go.Proofs.YtojfncpjgpklhaaGreatDoorW.PrintWords Go.Proofs.YtojfncpjgpklhaaGreatDoorW.PrintLast Go.Proofs.YtojfncpjgpklhaaGreatDoorW.PrintMore
set_option linter.unusedVariables false
set_option linter.unusedSimpArgs false
/-- The same normal forms? -/
def snEq (x y : SgN) : Bool := (((x.1 == y.1 && (x.2.1 == y.2.1 && (x.2.2.1 == y.2.2.1 && (x.2.2.2.1 == y.2.2.2.1 && (x.2.2.2.2.1 == y.2.2.2.2.1 && (x.2.2.2.2.2.1 == y.2.2.2.2.2.1)))))) && ((x.2.2.2.2.2.2.1 == y.2.2.2.2.2.2.1 && (x.2.2.2.2.2.2.2.1 == y.2.2.2.2.2.2.2.1)) && ((x.2.2.2.2.2.2.2.2.1 == y.2.2.2.2.2.2.2.2.1 && (x.2.2.2.2.2.2.2.2.2.1 == y.2.2.2.2.2.2.2.2.2.1 && (x.2.2.2.2.2.2.2.2.2.2.1 == y.2.2.2.2.2.2.2.2.2.2.1))) && (x.2.2.2.2.2.2.2.2.2.2.2.1.toList == y.2.2.2.2.2.2.2.2.2.2.2.1.toList && (x.2.2.2.2.2.2.2.2.2.2.2.2.1 == y.2.2.2.2.2.2.2.2.2.2.2.2.1))))) && (x.2.2.2.2.2.2.2.2.2.2.2.2.2.1 == y.2.2.2.2.2.2.2.2.2.2.2.2.2.1 && ((x.2.2.2.2.2.2.2.2.2.2.2.2.2.2.1 == y.2.2.2.2.2.2.2.2.2.2.2.2.2.2.1 && (x.2.2.2.2.2.2.2.2.2.2.2.2.2.2.2.1 == y.2.2.2.2.2.2.2.2.2.2.2.2.2.2.2.1 && (x.2.2.2.2.2.2.2.2.2.2.2.2.2.2.2.2.1 == y.2.2.2.2.2.2.2.2.2.2.2.2.2.2.2.2.1 && (x.2.2.2.2.2.2.2.2.2.2.2.2.2.2.2.2.2.1 == y.2.2.2.2.2.2.2.2.2.2.2.2.2.2.2.2.2.1 && (x.2.2.2.2.2.2.2.2.2.2.2.2.2.2.2.2.2.2.1 == y.2.2.2.2.2.2.2.2.2.2.2.2.2.2.2.2.2.2.1 && (x.2.2.2.2.2.2.2.2.2.2.2.2.2.2.2.2.2.2.2.1 == y.2.2.2.2.2.2.2.2.2.2.2.2.2.2.2.2.2.2.2.1)))))) && ((x.2.2.2.2.2.2.2.2.2.2.2.2.2.2.2.2.2.2.2.2.1 == y.2.2.2.2.2.2.2.2.2.2.2.2.2.2.2.2.2.2.2.2.1 && (x.2.2.2.2.2.2.2.2.2.2.2.2.2.2.2.2.2.2.2.2.2.1 == y.2.2.2.2.2.2.2.2.2.2.2.2.2.2.2.2.2.2.2.2.2.1)) && ((x.2.2.2.2.2.2.2.2.2.2.2.2.2.2.2.2.2.2.2.2.2.2.1 == y.2.2.2.2.2.2.2.2.2.2.2.2.2.2.2.2.2.2.2.2.2.2.1 && (x.2.2.2.2.2.2.2.2.2.2.2.2.2.2.2.2.2.2.2.2.2.2.2.1 == y.2.2.2.2.2.2.2.2.2.2.2.2.2.2.2.2.2.2.2.2.2.2.2.1 && (x.2.2.2.2.2.2.2.2.2.2.2.2.2.2.2.2.2.2.2.2.2.2.2.2.1 == y.2.2.2.2.2.2.2.2.2.2.2.2.2.2.2.2.2.2.2.2.2.2.2.2.1))) && (x.2.2.2.2.2.2.2.2.2.2.2.2.2.2.2.2.2.2.2.2.2.2.2.2.2.1.toList == y.2.2.2.2.2.2.2.2.2.2.2.2.2.2.2.2.2.2.2.2.2.2.2.2.2.1.toList && (x.2.2.2.2.2.2.2.2.2.2.2.2.2.2.2.2.2.2.2.2.2.2.2.2.2.2 == y.2.2.2.2.2.2.2.2.2.2.2.2.2.2.2.2.2.2.2.2.2.2.2.2.2.2)))))))
end Go.Proofs.YtojfncpjgpklhaaGreatDoor.PA
