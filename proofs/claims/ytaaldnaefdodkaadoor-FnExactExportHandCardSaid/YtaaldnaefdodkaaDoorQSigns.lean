/- The plain law of movements: what is a movement, and all its steps, are the same for the program and the reference. -/
import Derived.Test.YtaaldnaefdodkaaDoorPAx1
import Derived.Test.YtaaldnaefdodkaaDoorBase
import Derived.Test.YtaaldnaefdodkaaDoorPAx2
namespace Go.Proofs.YtaaldnaefdodkaaDoor.PA
open Go.RowKit Go.Proofs.YtaaldnaefdodkaaDoorW.PrintWords Go.Proofs.YtaaldnaefdodkaaDoorW.PrintLast Go.Proofs.YtaaldnaefdodkaaDoorW.PrintMore
set_option linter.unusedVariables false
set_option linter.unusedSimpArgs false

theorem w64_i {x : Int} (h0 : -9223372036854775808 ≤ x) (h1 : x ≤ 9223372036854775807) : wrap64 x = x := by
  unfold wrap64; omega
theorem w64_succ {i : Nat} (h : i < 9223372036854775807) : wrap64 ((i : Int) + 1) = ((i + 1 : Nat) : Int) := by
  rw [w64_i (by omega) (by omega)]; omega

/-- The letters of the directions. -/
def dirL : List UInt8 := [117, 100, 108, 114, 102, 98]
def dirIdx (x : Int) : Int := Lib.indexByte dirL x.toNat.toUInt8
theorem spec_idx : ∀ x : Fin 256, spec_mvIndex.f 8 (x.val : Int) = some (dirIdx (x.val : Int)) := by
  decide +kernel
theorem spec_mvIndex_ev (s : ByteArray) (i : Int) : Ev (fun k => spec_mvIndex.f k (bt s i)) (dirIdx (bt s i)) := by
  have h := bt_range s i
  have := spec_idx ⟨(bt s i).toNat, by omega⟩
  simp only [] at this
  rw [show (((bt s i).toNat : Nat) : Int) = bt s i by omega] at this
  exact Ev.of (fun k => spec_mvIndex.mono _ k) this
/-- Are all letters from i on directions? -/
def dirsFrom (s : ByteArray) (i : Nat) : Bool := (List.range' i (s.size - i)).all fun j => decide (0 ≤ dirIdx (bt s (j : Int)))
theorem dirsFrom_end (s : ByteArray) (i : Nat) (h : s.size ≤ i) : dirsFrom s i = true := by
  unfold dirsFrom; rw [show s.size - i = 0 by omega]; rfl
theorem dirsFrom_step (s : ByteArray) (i : Nat) (h : i < s.size) : dirsFrom s i = (decide (0 ≤ dirIdx (bt s (i : Int))) && dirsFrom s (i + 1)) := by
  unfold dirsFrom
  rw [show s.size - i = (s.size - (i + 1)) + 1 by omega, List.range'_succ, List.all_cons]
theorem spec_steps_from (s : ByteArray) (hs : s.size < 9223372036854775807) : ∀ (d i : Nat), s.size - i = d → i ≤ s.size → Ev (fun k => spec_mvSteps.l0 k s (i : Int)) (dirsFrom s i) := by
  intro d
  induction d with
  | zero =>
    intro i hd hi
    refine ⟨1, fun k hk => ?_⟩
    obtain ⟨k, rfl⟩ : ∃ m, k = m + 1 := ⟨k - 1, by omega⟩
    simp only [spec_mvSteps.l0]
    rw [if_neg (by omega), dirsFrom_end s i (by omega)]
  | succ d ih =>
    intro i hd hi
    have hlt : i < s.size := by omega
    refine Ev.step (f := fun k => (spec_mvIndex.f k (bt s (i : Int))).bind fun t => if t < 0 then some false else spec_mvSteps.l0 k s ((i + 1 : Nat) : Int)) (fun k => ?_) ?_
    · simp only [spec_mvSteps.l0]
      rw [if_pos (by omega), if_pos (by omega), if_pos (by omega), w64_succ (by omega)]
    · refine Ev.bind (spec_mvIndex_ev s i) ?_
      rw [dirsFrom_step s i hlt]
      by_cases h : 0 ≤ dirIdx (bt s (i : Int))
      · rw [decide_eq_true h, Bool.true_and]
        exact Ev.congr (fun k => by rw [if_neg (by omega)]) (ih (i + 1) (by omega) (by omega))
      · rw [decide_eq_false h, Bool.false_and]
        exact Ev.congr (f := fun _ => some false) (fun k => by rw [if_pos (by omega)]) (Ev.now _)
theorem impl_steps_from (s : ByteArray) (hs : s.size < 9223372036854775807) : ∀ (d i : Nat), s.size - i = d → i ≤ s.size → Ev (fun k => impl_hasOnly.l0 k s ⟨#[117, 100, 108, 114, 102, 98]⟩ (s.size : Int) (i : Int)) (dirsFrom s i) := by
  intro d
  induction d with
  | zero =>
    intro i hd hi
    refine ⟨1, fun k hk => ?_⟩
    obtain ⟨k, rfl⟩ : ∃ m, k = m + 1 := ⟨k - 1, by omega⟩
    simp only [impl_hasOnly.l0]
    rw [if_neg (by omega), dirsFrom_end s i (by omega)]
  | succ d ih =>
    intro i hd hi
    have hlt : i < s.size := by omega
    refine Ev.step (f := fun k => if dirIdx (bt s (i : Int)) < 0 then some false else impl_hasOnly.l0 k s ⟨#[117, 100, 108, 114, 102, 98]⟩ (s.size : Int) ((i + 1 : Nat) : Int)) (fun k => ?_) ?_
    · simp only [impl_hasOnly.l0]
      rw [if_pos (by omega), if_pos (by omega), if_pos (by omega), w64_succ (by omega)]
      rfl
    · rw [dirsFrom_step s i hlt]
      by_cases h : 0 ≤ dirIdx (bt s (i : Int))
      · rw [decide_eq_true h, Bool.true_and]
        exact Ev.congr (fun k => by rw [if_neg (by omega)]) (ih (i + 1) (by omega) (by omega))
      · rw [decide_eq_false h, Bool.false_and]
        exact Ev.congr (f := fun _ => some false) (fun k => by rw [if_pos (by omega)]) (Ev.now _)
/-- A valid movement. -/
def mvOK (s : ByteArray) (n : Int) : Bool := decide (s.size ≤ 6) && (dirsFrom s 0 && (decide (1 ≤ n ∧ n ≤ 3) && (decide (¬ s.toList = []) || n == 1)))
theorem mvOK_ends {g : Nat → Option Bool} {s : ByteArray} {n : Int} (h : Ev g (dirsFrom s 0)) (w : Int → Int → Int → Option Bool) (hw : ∀ x, w x 1 3 = some (decide (1 ≤ x ∧ x ≤ 3))) :
    Ev (fun k => if (s.size : Int) ≤ 6 then ((g k).bind fun t178 => (if t178 = true then ((w n 1 3).bind fun t179 => (if t179 = true then (if s.toList = ([] : List UInt8) then (some (n == 1)) else (some true)) else (some false))) else (some false))) else (some false)) (mvOK s n) := by
  unfold mvOK
  by_cases h6 : s.size ≤ 6
  · rw [decide_eq_true h6, Bool.true_and]
    refine Ev.congr (fun k => if_pos (by omega)) (Ev.bind h ?_)
    cases dirsFrom s 0
    · exact Ev.now _
    · rw [hw]
      by_cases h13 : 1 ≤ n ∧ n ≤ 3
      · rw [decide_eq_true h13]
        by_cases he : s.toList = []
        · simp only [he, if_true, Option.bind_some, Bool.true_and, not_true_eq_false, decide_false, Bool.false_or]; exact Ev.now _
        · simp only [he, if_true, if_false, Option.bind_some, Bool.true_and, not_false_eq_true, decide_true, Bool.true_or]; exact Ev.now _
      · rw [decide_eq_false h13]
        exact Ev.now _
  · rw [decide_eq_false h6, Bool.false_and]
    exact Ev.congr (f := fun _ => some false) (fun k => if_neg (by omega)) (Ev.now _)
theorem l1In13 (x : Int) : spec_l1In.f x 1 3 = some (decide (1 ≤ x ∧ x ≤ 3)) := by
  unfold spec_l1In.f
  by_cases h : x ≥ 1
  · rw [if_pos h]; simp [h]
  · rw [if_neg h]; simp; omega
theorem within13 (x : Int) : impl_within.f x 1 3 = some (decide (1 ≤ x ∧ x ≤ 3)) := by
  unfold impl_within.f
  by_cases h : x ≥ 1
  · rw [if_pos h]; simp [h]
  · rw [if_neg h]; simp; omega
theorem spec_mvGood_ev (s : ByteArray) (n : Int) (hs : s.size < 9223372036854775807) : Ev (fun k => spec_mvGood.f k s n) (mvOK s n) :=
  mvOK_ends (spec_steps_from s hs (s.size - 0) 0 rfl (by omega)) spec_l1In.f l1In13
theorem impl_IsMove_ev (s : ByteArray) (n : Int) (hs : s.size < 9223372036854775807) : Ev (fun k => impl_IsMove.f k s n) (mvOK s n) :=
  mvOK_ends (impl_steps_from s hs (s.size - 0) 0 rfl (by omega)) impl_within.f within13
theorem mvOK_parts {s : ByteArray} {n : Int} (h : mvOK s n = true) : s.size ≤ 6 ∧ 1 ≤ n ∧ n ≤ 3 ∧ (s.toList = [] → n = 1) := by
  unfold mvOK at h
  simp only [Bool.and_eq_true, decide_eq_true_eq, Bool.or_eq_true, beq_iff_eq] at h
  obtain ⟨h1, _, h2, h3⟩ := h
  refine ⟨h1, h2.1, h2.2, fun he => ?_⟩
  rcases h3 with h3 | h3
  · exact absurd he h3
  · exact h3

theorem bs_ext {a b : ByteArray} (h : a.data.toList = b.data.toList) : a = b := by
  obtain ⟨⟨a⟩⟩ := a; obtain ⟨⟨b⟩⟩ := b; simp at h; rw [h]
end Go.Proofs.YtaaldnaefdodkaaDoor.PA

namespace Go.Proofs.YtaaldnaefdodkaaDoor.PA
open Go.RowKit Go.Proofs.YtaaldnaefdodkaaDoorW.PrintWords Go.Proofs.YtaaldnaefdodkaaDoorW.PrintLast Go.Proofs.YtaaldnaefdodkaaDoorW.PrintMore
set_option linter.unusedVariables false
set_option linter.unusedSimpArgs false
theorem szMove_small (s : ByteArray) (n a : Int) (hs : s.size ≤ 9223372036854775807) (h0 : 0 ≤ a) (h1 : a ≤ 1048576) (h : (s.size : Int) ≤ a) : laws_szMove.f s n a = some (a - (s.size : Int)) := by
  unfold laws_szMove.f
  rw [w64_i (by omega) (by omega), if_neg (by omega)]
theorem szMove_big (s : ByteArray) (n a : Int) (hs : s.size ≤ 9223372036854775807) (h0 : 0 ≤ a) (h1 : a ≤ 1048576) (h : a < (s.size : Int)) : laws_szMove.f s n a = some (-1) := by
  unfold laws_szMove.f
  rw [w64_i (by omega) (by omega), if_pos (by omega)]
theorem Ev.shift {α : Type} {g : Nat → Option α} {r : α} (h : Ev (fun k => g (k + 1)) r) : Ev g r := Ev.step (fun _ => rfl) h
end Go.Proofs.YtaaldnaefdodkaaDoor.PA

namespace Go.Proofs.YtaaldnaefdodkaaDoor.PA
open Go.RowKit Go.Proofs.YtaaldnaefdodkaaDoorW.PrintWords Go.Proofs.YtaaldnaefdodkaaDoorW.PrintLast Go.Proofs.YtaaldnaefdodkaaDoorW.PrintMore
set_option linter.unusedVariables false
set_option linter.unusedSimpArgs false
theorem in_val (a b c : Int) : spec_l1In.f a b c = some (decide (b ≤ a ∧ a ≤ c)) := by
  unfold spec_l1In.f
  by_cases h : b ≤ a
  · rw [if_pos h]; simp [h]
  · rw [if_neg h]; simp [h]
theorem rd_at (l : List Int) (i : Nat) (h : i < l.length) : rd l (i : Int) = l[i] := by
  unfold rd
  rw [List.getD_eq_getElem?_getD]
  simp [h]
theorem all_from (l : List Int) (a1 a2 : Int) (hl : l.length ≤ 1000) : ∀ (d i : Nat), l.length - i = d → i ≤ l.length → Ev (fun k => spec_l1All.l0 k a1 a2 l (l.length : Int) (i : Int)) (awAll a1 a2 (l.drop i))
  | 0, i, hd, hi => by
    rw [List.drop_eq_nil_of_le (by omega)]
    refine Ev.step (f := fun _ => some true) (fun k => ?_) (Ev.now _)
    simp only [spec_l1All.l0]
    rw [if_neg (by omega)]
  | d + 1, i, hd, hi => by
    have hlt : i < l.length := by omega
    have hw : wrap64 ((i : Int) + 1) = ((i + 1 : Nat) : Int) := w64_succ (by omega)
    rw [List.drop_eq_getElem_cons hlt]
    by_cases h : a1 ≤ l[i] ∧ l[i] ≤ a2
    · have e : awAll a1 a2 (l[i] :: l.drop (i + 1)) = awAll a1 a2 (l.drop (i + 1)) := by simp only [awAll, List.all_cons, decide_eq_true h, Bool.true_and]
      rw [e]
      refine Ev.step (fun k => ?_) (all_from l a1 a2 hl d (i + 1) (by omega) (by omega))
      simp only [spec_l1All.l0, hw, rd_at l i hlt, in_val]
      rw [if_pos (by omega), if_pos (by omega), if_pos (by omega), Option.bind_some, if_pos (decide_eq_true h)]
    · have e : awAll a1 a2 (l[i] :: l.drop (i + 1)) = false := by simp only [awAll, List.all_cons, decide_eq_false h, Bool.false_and]
      rw [e]
      refine Ev.step (f := fun _ => some false) (fun k => ?_) (Ev.now _)
      simp only [spec_l1All.l0, hw, rd_at l i hlt, in_val]
      rw [if_pos (by omega), if_pos (by omega), if_pos (by omega), Option.bind_some, if_neg (by rw [decide_eq_false h]; decide)]
theorem all_ev (l : List Int) (a1 a2 : Int) (hl : l.length ≤ 1000) : Ev (fun k => spec_l1All.f k l a1 a2) (awAll a1 a2 l) := all_from l a1 a2 hl _ 0 rfl (Nat.zero_le _)
/-- May a shape be spread? -/
def wideV (i m r l : Int) : Bool := if m = 0 then (if i = 0 then true else if r = 0 then true else false) else (if r = 0 then l == 0 else false)
theorem impl_spread (t i m r l : Int) (s : Bool) : impl_Shape_maySpread.f t i m r l s = some (wideV i m r l) := by
  unfold impl_Shape_maySpread.f wideV
  split <;> split <;> (try split) <;> rfl
theorem wide_ev (t i m r l : Int) (s : Bool) : Ev (fun k => spec_shWide.f k t i m r l s) (wideV i m r l) := by
  have w0 : wrap64 0 = 0 := w64_i (by decide) (by decide)
  have w1 : wrap64 1 = 1 := w64_i (by decide) (by decide)
  have w2 : wrap64 2 = 2 := w64_i (by decide) (by decide)
  have w3 : wrap64 3 = 3 := w64_i (by decide) (by decide)
  have w4 : wrap64 4 = 4 := w64_i (by decide) (by decide)
  have s4 : Ev (fun k => spec_shWide.l0 k [i, m, r, l] 4) false := Ev.step (f := fun _ => some false) (fun k => by simp [spec_shWide.l0]) (Ev.now _)
  have s3 : Ev (fun k => spec_shWide.l0 k [i, m, r, l] 3) (decide (r = 0 ∧ l = 0)) := by
    by_cases h : r = 0
    · by_cases h' : l = 0
      · exact Ev.step (f := fun _ => some (decide (r = 0 ∧ l = 0))) (fun k => by simp [spec_shWide.l0, rd, w0, w1, w2, w3, w4, h, h']) (Ev.now _)
      · rw [decide_eq_false (fun e => h' e.2)]; exact Ev.step (fun k => by simp [spec_shWide.l0, rd, w0, w1, w2, w3, w4, h, h']) s4
    · rw [decide_eq_false (fun e => h e.1)]; exact Ev.step (fun k => by simp [spec_shWide.l0, rd, w0, w1, w2, w3, w4, h]) s4
  have s2 : Ev (fun k => spec_shWide.l0 k [i, m, r, l] 2) (decide ((m = 0 ∧ r = 0) ∨ (r = 0 ∧ l = 0))) := by
    by_cases h : m = 0 ∧ r = 0
    · rw [decide_eq_true (.inl h)]; exact Ev.step (f := fun _ => some true) (fun k => by simp [spec_shWide.l0, rd, w0, w1, w2, w3, w4, h.1, h.2]) (Ev.now _)
    · have e : decide ((m = 0 ∧ r = 0) ∨ (r = 0 ∧ l = 0)) = decide (r = 0 ∧ l = 0) := by simp [h]
      rw [e]
      refine Ev.step (fun k => ?_) s3
      by_cases h1 : m = 0
      · have h2 : r ≠ 0 := fun e => h ⟨h1, e⟩
        simp [spec_shWide.l0, rd, w0, w1, w2, w3, w4, h1, h2]
      · simp [spec_shWide.l0, rd, w0, w1, w2, w3, w4, h1]
  have s1 : Ev (fun k => spec_shWide.l0 k [i, m, r, l] 1) (decide ((i = 0 ∧ m = 0) ∨ (m = 0 ∧ r = 0) ∨ (r = 0 ∧ l = 0))) := by
    by_cases h : i = 0 ∧ m = 0
    · rw [decide_eq_true (.inl h)]; exact Ev.step (f := fun _ => some true) (fun k => by simp [spec_shWide.l0, rd, w0, w1, w2, w3, w4, h.1, h.2]) (Ev.now _)
    · have e : decide ((i = 0 ∧ m = 0) ∨ (m = 0 ∧ r = 0) ∨ (r = 0 ∧ l = 0)) = decide ((m = 0 ∧ r = 0) ∨ (r = 0 ∧ l = 0)) := by simp [h]
      rw [e]
      refine Ev.step (fun k => ?_) s2
      by_cases h1 : i = 0
      · have h2 : m ≠ 0 := fun e => h ⟨h1, e⟩
        simp [spec_shWide.l0, rd, w0, w1, w2, w3, w4, h1, h2]
      · simp [spec_shWide.l0, rd, w0, w1, w2, w3, w4, h1]
  have e : wideV i m r l = decide ((i = 0 ∧ m = 0) ∨ (m = 0 ∧ r = 0) ∨ (r = 0 ∧ l = 0)) := by
    unfold wideV
    by_cases h1 : m = 0 <;> by_cases h2 : i = 0 <;> by_cases h3 : r = 0 <;> by_cases h4 : l = 0 <;> simp [h1, h2, h3, h4]
  rw [e]
  unfold spec_shWide.f
  simp only [spec_shFingers.f, Option.bind_some]
  exact s1
/-- A valid shape. -/
def shOK (t i m r l : Int) (s : Bool) : Bool := if awAll 0 2 [t, i, m, r, l] = true then (if s = true then wideV i m r l else true) else false
theorem impl_shape (t i m r l : Int) (s : Bool) : impl_IsShape.f t i m r l s = some (shOK t i m r l s) := by
  unfold impl_IsShape.f shOK
  simp only [Option.bind_some, impl_Shape_bends.f, impl_allWithin.f, impl_spread]
  rw [if_pos (by simp), if_pos (by simp), Option.bind_some]
  show (if awAll 0 2 [t, i, m, r, l] = true then _ else _) = _
  split <;> (try split) <;> rfl
theorem spec_shape_ev (t i m r l : Int) (s : Bool) : Ev (fun k => spec_shGood.f k t i m r l s) (shOK t i m r l s) := by
  unfold spec_shGood.f shOK
  simp only [in_val, Option.bind_some, spec_shFingers.f]
  by_cases h : 0 ≤ t ∧ t ≤ 2
  · simp only [decide_eq_true h, if_true]
    refine Ev.bind (all_ev _ _ _ (by simp)) ?_
    have e : awAll 0 2 [t, i, m, r, l] = awAll 0 2 [i, m, r, l] := by unfold awAll; rw [List.all_cons, decide_eq_true h, Bool.true_and]
    rw [e]
    cases awAll 0 2 [i, m, r, l]
    · simp only [Bool.false_eq_true, if_false]; exact Ev.now _
    · simp only [if_true]
      cases s
      · simp only [Bool.false_eq_true, if_false]; exact Ev.now _
      · simp only [if_true]
        exact Ev.bind (wide_ev _ _ _ _ _ _) (Ev.now _)
  · simp only [decide_eq_false h, Bool.false_eq_true, if_false]
    have e : awAll 0 2 [t, i, m, r, l] = false := by simp only [awAll, List.all_cons, decide_eq_false h, Bool.false_and]
    rw [e]
    simp only [Bool.false_eq_true, if_false]
    exact Ev.now _
theorem shOK_in {t i m r l : Int} {s : Bool} (h : shOK t i m r l s = true) : (0 ≤ t ∧ t ≤ 2) ∧ (0 ≤ i ∧ i ≤ 2) ∧ (0 ≤ m ∧ m ≤ 2) ∧ (0 ≤ r ∧ r ≤ 2) ∧ (0 ≤ l ∧ l ≤ 2) := by
  unfold shOK at h
  split at h
  · rename_i h1
    simp only [awAll, List.all_cons, List.all_nil, Bool.and_true, Bool.and_eq_true, decide_eq_true_eq] at h1
    exact h1
  · cases h
/-- A valid orientation. -/
def orOK (p f : Int) : Bool := decide (0 ≤ p ∧ p ≤ 5) && (decide (0 ≤ f ∧ f ≤ 5) && decide (p / 2 ≠ f / 2))
theorem six (p : Int) (h : 0 ≤ p ∧ p ≤ 5) : p = 0 ∨ p = 1 ∨ p = 2 ∨ p = 3 ∨ p = 4 ∨ p = 5 := by omega
theorem impl_orient (p f : Int) : impl_IsOrient.f p f = some (orOK p f) := by
  unfold impl_IsOrient.f orOK
  simp only [aw_within, Option.bind_some]
  by_cases h : 0 ≤ p ∧ p ≤ 5
  · by_cases h' : 0 ≤ f ∧ f ≤ 5
    · rcases six p h with rfl | rfl | rfl | rfl | rfl | rfl <;> rcases six f h' with rfl | rfl | rfl | rfl | rfl | rfl <;> kernel_rfl
    · simp only [decide_eq_true h, decide_eq_false h', if_true, Bool.false_eq_true, if_false, Bool.true_and, Bool.false_and]
  · simp only [decide_eq_false h, Bool.false_eq_true, if_false, Bool.false_and]
theorem spec_orient (p f : Int) : spec_orGood.f p f = some (orOK p f) := by
  unfold spec_orGood.f orOK
  simp only [spec_orDir.f, in_val, Option.bind_some]
  by_cases h : 0 ≤ p ∧ p ≤ 5
  · by_cases h' : 0 ≤ f ∧ f ≤ 5
    · rcases six p h with rfl | rfl | rfl | rfl | rfl | rfl <;> rcases six f h' with rfl | rfl | rfl | rfl | rfl | rfl <;> kernel_rfl
    · simp only [decide_eq_true h, decide_eq_false h', if_true, Bool.false_eq_true, if_false, Bool.true_and, Bool.false_and]
  · simp only [decide_eq_false h, Bool.false_eq_true, if_false, Bool.false_and]
/-- A valid place. -/
def plOK (g s : Int) (c : Bool) : Bool := decide (0 ≤ g ∧ g ≤ 9) && (decide (-1 ≤ s ∧ s ≤ 1) && !(c && g == 0))
theorem impl_place (g s : Int) (c : Bool) : impl_IsPlace.f g s c = some (plOK g s c) := by
  unfold impl_IsPlace.f plOK
  simp only [aw_within, Option.bind_some]
  by_cases h : 0 ≤ g ∧ g ≤ 9
  · by_cases h' : -1 ≤ s ∧ s ≤ 1
    · simp only [decide_eq_true h, decide_eq_true h', if_true, Bool.true_and]
      cases c <;> simp
    · simp only [decide_eq_true h, decide_eq_false h', if_true, Bool.false_eq_true, if_false, Bool.true_and, Bool.false_and]
  · simp only [decide_eq_false h, Bool.false_eq_true, if_false, Bool.false_and]
theorem spec_place (g s : Int) (c : Bool) : spec_plGood.f g s c = some (plOK g s c) := by
  unfold spec_plGood.f plOK
  simp only [in_val, Option.bind_some]
  by_cases h : 0 ≤ g ∧ g ≤ 9
  · by_cases h' : -1 ≤ s ∧ s ≤ 1
    · simp only [decide_eq_true h, decide_eq_true h', if_true, Bool.true_and]
      by_cases h0 : g > 0
      · have e : (g == 0) = false := by simp; omega
        rw [if_pos h0, e]; simp
      · have e : (g == 0) = true := by simp; omega
        rw [if_neg h0, e]; simp
    · simp only [decide_eq_true h, decide_eq_false h', if_true, Bool.false_eq_true, if_false, Bool.true_and, Bool.false_and]
  · simp only [decide_eq_false h, Bool.false_eq_true, if_false, Bool.false_and]
/-- A valid hand. -/
def hdOK (t i m r l : Int) (s : Bool) (p f g d : Int) (c : Bool) (b : ByteArray) (n : Int) : Bool := shOK t i m r l s && (orOK p f && (plOK g d c && mvOK b n))
theorem spec_hand_ev (t i m r l : Int) (s : Bool) (p f g d : Int) (c : Bool) (b : ByteArray) (n : Int) (hb : b.size ≤ 1048576) : Ev (fun k => spec_siHand.f k t i m r l s p f g d c b n) (hdOK t i m r l s p f g d c b n) := by
  unfold spec_siHand.f hdOK
  refine Ev.bind (spec_shape_ev t i m r l s) ?_
  cases shOK t i m r l s
  · simp only [Bool.false_eq_true, if_false, Bool.false_and]; exact Ev.now _
  · simp only [if_true, Bool.true_and, spec_orient, Option.bind_some]
    cases orOK p f
    · simp only [Bool.false_eq_true, if_false, Bool.false_and]; exact Ev.now _
    · simp only [if_true, Bool.true_and, spec_place, Option.bind_some]
      cases plOK g d c
      · simp only [Bool.false_eq_true, if_false, Bool.false_and]; exact Ev.now _
      · simp only [if_true, Bool.true_and]
        exact Ev.bind (spec_mvGood_ev b n (by omega)) (Ev.now _)
theorem impl_hand_ev (t i m r l : Int) (s : Bool) (p f g d : Int) (c : Bool) (b : ByteArray) (n : Int) (hb : b.size ≤ 1048576) : Ev (fun k => impl_IsHand.f k t i m r l s p f g d c b n) (hdOK t i m r l s p f g d c b n) := by
  unfold impl_IsHand.f hdOK
  simp only [impl_shape, impl_orient, impl_place, Option.bind_some]
  cases shOK t i m r l s
  · simp only [Bool.false_eq_true, if_false, Bool.false_and]; exact Ev.now _
  · simp only [if_true, Bool.true_and]
    cases orOK p f
    · simp only [Bool.false_eq_true, if_false, Bool.false_and]; exact Ev.now _
    · simp only [if_true, Bool.true_and]
      cases plOK g d c
      · simp only [Bool.false_eq_true, if_false, Bool.false_and]; exact Ev.now _
      · simp only [if_true, Bool.true_and]
        exact Ev.bind (impl_IsMove_ev b n (by omega)) (Ev.now _)
end Go.Proofs.YtaaldnaefdodkaaDoor.PA

namespace Go.Proofs.YtaaldnaefdodkaaDoor.PA
open Go.RowKit Go.Proofs.YtaaldnaefdodkaaDoorW.PrintWords Go.Proofs.YtaaldnaefdodkaaDoorW.PrintLast Go.Proofs.YtaaldnaefdodkaaDoorW.PrintMore
set_option linter.unusedVariables false
set_option linter.unusedSimpArgs false
section
variable (t i m r l : Int) (s : Bool) (p f g d : Int) (c : Bool) (b : ByteArray) (n : Int) (w : Bool) (t' i' m' r' l' : Int) (s' : Bool) (p' f' g' d' : Int) (c' : Bool) (b' : ByteArray) (n' : Int)
theorem to_hand : laws_toHand.f t i m r l s p f g d c b n = some (t, i, m, r, l, s, p, f, g, d, c, b, n) := by
  simp only [laws_toHand.f, laws_toShape.f, laws_toOrient.f, laws_toPlace.f, laws_toMove.f, Option.bind_some]
theorem sz_hand (a : Int) (h0 : 0 ≤ a) (h1 : a ≤ 1048576) (hb : b.size ≤ 9223372036854775807) : laws_szHand.f t i m r l s p f g d c b n a = some (if (b.size : Int) ≤ a then a - (b.size : Int) else -1) := by
  by_cases h : (b.size : Int) ≤ a
  · rw [if_pos h]
    simp only [laws_szHand.f, szMove_small b n a hb h0 h1 h, Option.bind_some]
    first | rw [if_neg (by omega)] | rfl
  · rw [if_neg h]
    simp only [laws_szHand.f, szMove_big b n a hb h0 h1 (by omega), Option.bind_some]
    first | rw [if_pos (by omega)] | rfl
end
end Go.Proofs.YtaaldnaefdodkaaDoor.PA

namespace Go.Proofs.YtaaldnaefdodkaaDoor.PA
open Go.RowKit Go.Proofs.YtaaldnaefdodkaaDoorW.PrintWords Go.Proofs.YtaaldnaefdodkaaDoorW.PrintLast Go.Proofs.YtaaldnaefdodkaaDoorW.PrintMore
set_option linter.unusedVariables false
set_option linter.unusedSimpArgs false
theorem ten (p : Int) (h : 0 ≤ p ∧ p < 10) : p = 0 ∨ p = 1 ∨ p = 2 ∨ p = 3 ∨ p = 4 ∨ p = 5 ∨ p = 6 ∨ p = 7 ∨ p = 8 ∨ p = 9 := by omega
theorem it_some (v : Int) (h : 0 ≤ v ∧ v < 10) : strconv_Itoa.f v = some (itT v) := by
  unfold strconv_Itoa.f; rw [if_pos (by omega)]
theorem it_size (v : Int) (h : 0 ≤ v ∧ v < 10) : (itT v).size = 1 := by
  rcases ten v h with rfl | rfl | rfl | rfl | rfl | rfl | rfl | rfl | rfl | rfl <;> kernel_rfl
theorem l1_ev (v : Int) (h : 0 ≤ v ∧ v < 10) : Ev (fun k => spec_l1Num.f k v) (itT v) := by
  refine Ev.step (f := fun _ => some (itT v)) (fun k => ?_) (Ev.now _)
  rcases ten v h with rfl | rfl | rfl | rfl | rfl | rfl | rfl | rfl | rfl | rfl <;> kernel_rfl
section
variable (t i m r l : Int) (s : Bool) (p f g d : Int) (c : Bool) (b : ByteArray) (n : Int) (w : Bool) (t' i' m' r' l' : Int) (s' : Bool) (p' f' g' d' : Int) (c' : Bool) (b' : ByteArray) (n' : Int)
/-- The text of a shape. -/
def shTxt : ByteArray := if s = true then ((((itT t ++ itT i) ++ itT m) ++ itT r) ++ itT l) ++ (⟨#[115]⟩ : ByteArray) else (((itT t ++ itT i) ++ itT m) ++ itT r) ++ itT l
theorem app_size (x y : ByteArray) : (x ++ y).size = x.size + y.size := ByteArray.size_append
theorem spec_sh_step (x : ByteArray) (L : List Int) (j : Nat) (hj : j < L.length) (hL : L.length ≤ 1000) (hv : 0 ≤ L[j] ∧ L[j] < 10) (hx : x.size ≤ 1000) {out : ByteArray}
    (h : Ev (fun k => spec_shText.l0 k (x ++ itT L[j]) L (L.length : Int) ((j + 1 : Nat) : Int) t i m r l s) out) : Ev (fun k => spec_shText.l0 k x L (L.length : Int) (j : Int) t i m r l s) out := by
  refine Ev.step (f := fun k => (spec_l1Num.f k L[j]).bind fun y => if x.size + y.size ≤ 9223372036854775807 then spec_shText.l0 k (x ++ y) L (L.length : Int) ((j + 1 : Nat) : Int) t i m r l s else none) (fun k => ?_) ?_
  · simp only [spec_shText.l0, w64_succ (show j < 9223372036854775807 by omega), rd_at L j hj]
    rw [if_pos (by omega), if_pos (by omega), if_pos (by omega)]
  · exact Ev.bind (l1_ev _ hv) (Ev.congr (fun k => if_pos (by rw [it_size _ hv]; omega)) h)
theorem impl_sh_step (x : ByteArray) (L : List Int) (j : Nat) (hj : j < L.length) (hL : L.length ≤ 1000) (hv : 0 ≤ L[j] ∧ L[j] < 10) (hx : x.size ≤ 1000) {out : ByteArray}
    (h : Ev (fun k => impl_Shape_text.l0 k (x ++ itT L[j]) L (L.length : Int) ((j + 1 : Nat) : Int) t i m r l s) out) : Ev (fun k => impl_Shape_text.l0 k x L (L.length : Int) (j : Int) t i m r l s) out := by
  refine Ev.step (f := fun k => impl_Shape_text.l0 k (x ++ itT L[j]) L (L.length : Int) ((j + 1 : Nat) : Int) t i m r l s) (fun k => ?_) h
  simp only [impl_Shape_text.l0, w64_succ (show j < 9223372036854775807 by omega), rd_at L j hj, it_some _ hv, Option.bind_some]
  rw [if_pos (by omega), if_pos (by omega), if_pos (by omega), if_pos (by rw [it_size _ hv]; omega)]
theorem spec_sh_end (x : ByteArray) (L : List Int) (j : Nat) (hj : L.length ≤ j) (hx : x.size ≤ 1000) : Ev (fun k => spec_shText.l0 k x L (L.length : Int) (j : Int) t i m r l s) (if s = true then x ++ (⟨#[115]⟩ : ByteArray) else x) := by
  refine Ev.step (f := fun k => some (if s = true then x ++ (⟨#[115]⟩ : ByteArray) else x)) (fun k => ?_) (Ev.now _)
  simp only [spec_shText.l0]
  rw [if_neg (by omega), if_pos (show x.size + 1 ≤ 9223372036854775807 by omega)]
  cases s <;> rfl
theorem impl_sh_end (x : ByteArray) (L : List Int) (j : Nat) (hj : L.length ≤ j) (hx : x.size ≤ 1000) : Ev (fun k => impl_Shape_text.l0 k x L (L.length : Int) (j : Int) t i m r l s) (if s = true then x ++ (⟨#[115]⟩ : ByteArray) else x) := by
  refine Ev.step (f := fun k => some (if s = true then x ++ (⟨#[115]⟩ : ByteArray) else x)) (fun k => ?_) (Ev.now _)
  simp only [impl_Shape_text.l0]
  rw [if_neg (by omega), if_pos (show x.size + 1 ≤ 9223372036854775807 by omega)]
  cases s <;> rfl
theorem shTxt_size (ht : 0 ≤ t ∧ t < 10) (hi : 0 ≤ i ∧ i < 10) (hm : 0 ≤ m ∧ m < 10) (hr : 0 ≤ r ∧ r < 10) (hl : 0 ≤ l ∧ l < 10) : (shTxt t i m r l s).size ≤ 6 := by
  unfold shTxt
  split <;> simp only [app_size, it_size _ ht, it_size _ hi, it_size _ hm, it_size _ hr, it_size _ hl] <;> decide
theorem spec_sh_ev (ht : 0 ≤ t ∧ t < 10) (hi : 0 ≤ i ∧ i < 10) (hm : 0 ≤ m ∧ m < 10) (hr : 0 ≤ r ∧ r < 10) (hl : 0 ≤ l ∧ l < 10) : Ev (fun k => spec_shText.f k t i m r l s) (shTxt t i m r l s) := by
  unfold spec_shText.f
  refine Ev.bind (l1_ev t ht) ?_
  simp only [spec_shFingers.f, Option.bind_some]
  have z := it_size
  refine spec_sh_step _ _ _ _ _ _ (itT t) [i, m, r, l] 0 (by simp) (by simp) hi (by rw [z _ ht]; decide) ?_
  refine spec_sh_step _ _ _ _ _ _ _ [i, m, r, l] 1 (by simp) (by simp) hm (by rw [app_size, z _ ht]; exact (by rw [show ([i, m, r, l] : List Int)[0] = i from rfl, z _ hi]; decide)) ?_
  refine spec_sh_step _ _ _ _ _ _ _ [i, m, r, l] 2 (by simp) (by simp) hr (by show ((itT t ++ itT i) ++ itT m).size ≤ 1000; rw [app_size, app_size, z _ ht, z _ hi, z _ hm]; decide) ?_
  refine spec_sh_step _ _ _ _ _ _ _ [i, m, r, l] 3 (by simp) (by simp) hl (by show (((itT t ++ itT i) ++ itT m) ++ itT r).size ≤ 1000; rw [app_size, app_size, app_size, z _ ht, z _ hi, z _ hm, z _ hr]; decide) ?_
  exact spec_sh_end _ _ _ _ _ _ ((((itT t ++ itT i) ++ itT m) ++ itT r) ++ itT l) [i, m, r, l] 4 (by simp) (by rw [app_size, app_size, app_size, app_size, z _ ht, z _ hi, z _ hm, z _ hr, z _ hl]; decide)
theorem impl_sh_ev (ht : 0 ≤ t ∧ t < 10) (hi : 0 ≤ i ∧ i < 10) (hm : 0 ≤ m ∧ m < 10) (hr : 0 ≤ r ∧ r < 10) (hl : 0 ≤ l ∧ l < 10) : Ev (fun k => impl_Shape_text.f k t i m r l s) (shTxt t i m r l s) := by
  unfold impl_Shape_text.f
  simp only [impl_Shape_bends.f, it_some _ ht, Option.bind_some]
  have z := it_size
  refine impl_sh_step _ _ _ _ _ _ (itT t) [i, m, r, l] 0 (by simp) (by simp) hi (by rw [z _ ht]; decide) ?_
  refine impl_sh_step _ _ _ _ _ _ _ [i, m, r, l] 1 (by simp) (by simp) hm (by show (itT t ++ itT i).size ≤ 1000; rw [app_size, z _ ht, z _ hi]; decide) ?_
  refine impl_sh_step _ _ _ _ _ _ _ [i, m, r, l] 2 (by simp) (by simp) hr (by show ((itT t ++ itT i) ++ itT m).size ≤ 1000; rw [app_size, app_size, z _ ht, z _ hi, z _ hm]; decide) ?_
  refine impl_sh_step _ _ _ _ _ _ _ [i, m, r, l] 3 (by simp) (by simp) hl (by show (((itT t ++ itT i) ++ itT m) ++ itT r).size ≤ 1000; rw [app_size, app_size, app_size, z _ ht, z _ hi, z _ hm, z _ hr]; decide) ?_
  exact impl_sh_end _ _ _ _ _ _ ((((itT t ++ itT i) ++ itT m) ++ itT r) ++ itT l) [i, m, r, l] 4 (by simp) (by rw [app_size, app_size, app_size, app_size, z _ ht, z _ hi, z _ hm, z _ hr, z _ hl]; decide)
/-- The text of an orientation. -/
def orTxt : ByteArray := ((⟨#[117, 100, 108, 114, 102, 98]⟩ : ByteArray).extract p.toNat (p.toNat + 1)) ++ ((⟨#[117, 100, 108, 114, 102, 98]⟩ : ByteArray).extract f.toNat (f.toNat + 1))
theorem or_txt (hp : 0 ≤ p ∧ p ≤ 5) (hf : 0 ≤ f ∧ f ≤ 5) : spec_orText.f p f = some (orTxt p f) ∧ impl_Orient_text.f p f = some (orTxt p f) ∧ (orTxt p f).size = 2 := by
  rcases six p hp with rfl | rfl | rfl | rfl | rfl | rfl <;> rcases six f hf with rfl | rfl | rfl | rfl | rfl | rfl <;> exact ⟨by kernel_rfl, by kernel_rfl, by kernel_rfl⟩
/-- The text of a place. -/
def plTxt : ByteArray := plNms.getD g.toNat ⟨#[]⟩ ++ plSide d ++ (if c = true then ⟨#[42]⟩ else ⟨#[]⟩)
theorem pl_txt (hg : 0 ≤ g ∧ g ≤ 9) (hd : -1 ≤ d ∧ d ≤ 1) : spec_plText.f g d c = some (plTxt g d c) ∧ impl_Place_text.f g d c = some (plTxt g d c) ∧ (plTxt g d c).size ≤ 7 := by
  refine ⟨?_, ?_, ?_⟩
  · rcases ten g (by omega) with rfl | rfl | rfl | rfl | rfl | rfl | rfl | rfl | rfl | rfl <;> rcases (show d = -1 ∨ d = 0 ∨ d = 1 by omega) with rfl | rfl | rfl <;> cases c <;> kernel_rfl
  · unfold impl_Place_text.f plTxt; rw [if_pos (by omega)]
  · rcases ten g (by omega) with rfl | rfl | rfl | rfl | rfl | rfl | rfl | rfl | rfl | rfl <;> rcases (show d = -1 ∨ d = 0 ∨ d = 1 by omega) with rfl | rfl | rfl <;> cases c <;> decide
/-- The text of a move. -/
def mvTxt : ByteArray := if b.toList = ([] : List UInt8) then (⟨#[45]⟩ : ByteArray) else if n > 1 then (b ++ (⟨#[42]⟩ : ByteArray)) ++ itT n else b
theorem mvTxt_size (hb : b.size ≤ 1000) (hn : b.toList = [] ∨ (1 ≤ n ∧ n < 10)) : (mvTxt b n).size ≤ 1002 := by
  unfold mvTxt
  split
  · decide
  · rename_i h0
    have hn := hn.resolve_left h0
    split
    · rw [app_size, app_size, it_size n (by omega)]
      have : (⟨#[42]⟩ : ByteArray).size = 1 := rfl
      omega
    · omega
theorem spec_mv_txt (hb : b.size ≤ 1000) (hn : b.toList = [] ∨ (1 ≤ n ∧ n < 10)) : Ev (fun k => spec_mvText.f k b n) (mvTxt b n) := by
  unfold spec_mvText.f mvTxt
  by_cases h : b.toList = ([] : List UInt8)
  · simp only [if_pos h]; exact Ev.now _
  · simp only [if_neg h]
    have hn := hn.resolve_left h
    by_cases h2 : n > 1
    · simp only [if_pos h2, if_pos (show b.size + 1 ≤ 9223372036854775807 by omega)]
      refine Ev.bind (l1_ev n (by omega)) (Ev.congr (f := fun _ => some _) (fun k => if_pos ?_) (Ev.now _))
      rw [app_size, it_size n (by omega)]
      have : (⟨#[42]⟩ : ByteArray).size = 1 := rfl
      omega
    · simp only [if_neg h2]; exact Ev.now _
theorem impl_mv_txt (hb : b.size ≤ 1000) (hn : b.toList = [] ∨ (1 ≤ n ∧ n < 10)) : impl_Move_text.f b n = some (mvTxt b n) := by
  unfold impl_Move_text.f mvTxt
  by_cases h : b.toList = ([] : List UInt8)
  · simp only [if_pos h]
  · simp only [if_neg h]
    have hn := hn.resolve_left h
    by_cases h2 : n > 1
    · have : (⟨#[42]⟩ : ByteArray).size = 1 := rfl
      rw [if_pos h2, if_neg (show ¬ n = 1 by omega), if_pos (by omega), it_some n (by omega)]
      simp only [Option.bind_some]
      rw [if_pos (by rw [app_size, it_size n (by omega)]; omega)]
    · rw [if_neg h2, if_pos (show n = 1 by omega)]
/-- What a hand's text needs. -/
def TxOK : Prop := ((0 ≤ t ∧ t < 10) ∧ (0 ≤ i ∧ i < 10) ∧ (0 ≤ m ∧ m < 10) ∧ (0 ≤ r ∧ r < 10) ∧ (0 ≤ l ∧ l < 10)) ∧ ((0 ≤ p ∧ p ≤ 5) ∧ (0 ≤ f ∧ f ≤ 5)) ∧ ((0 ≤ g ∧ g ≤ 9) ∧ (-1 ≤ d ∧ d ≤ 1)) ∧ b.size ≤ 1000 ∧ (b.toList = [] ∨ (1 ≤ n ∧ n < 10))
theorem hdOK_tx (h : hdOK t i m r l s p f g d c b n = true) : TxOK t i m r l p f g d b n := by
  unfold hdOK at h
  rw [Bool.and_eq_true, Bool.and_eq_true, Bool.and_eq_true] at h
  obtain ⟨h1, h2, h3, h4⟩ := h
  have a := shOK_in h1
  have e := mvOK_parts h4
  unfold orOK at h2
  unfold plOK at h3
  rw [Bool.and_eq_true, Bool.and_eq_true, decide_eq_true_eq, decide_eq_true_eq] at h2
  rw [Bool.and_eq_true, Bool.and_eq_true, decide_eq_true_eq, decide_eq_true_eq] at h3
  exact ⟨⟨by omega, by omega, by omega, by omega, by omega⟩, ⟨h2.1, h2.2.1⟩, ⟨h3.1, h3.2.1⟩, by omega, .inr (by omega)⟩
end
end Go.Proofs.YtaaldnaefdodkaaDoor.PA
