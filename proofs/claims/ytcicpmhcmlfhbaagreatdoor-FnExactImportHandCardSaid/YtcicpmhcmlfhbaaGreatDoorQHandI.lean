/- The plain law of desks: what is valid, what edits make, and what all functions of desks return. -/
import Derived.Test.YtcicpmhcmlfhbaaGreatDoorPAx2
import Derived.Test.YtcicpmhcmlfhbaaGreatDoorBase
namespace Go.Proofs.YtcicpmhcmlfhbaaGreatDoor.PA
open Go.RowKit Go.Proofs.YtcicpmhcmlfhbaaGreatDoorW.PrintWords Go.Proofs.YtcicpmhcmlfhbaaGreatDoorW.PrintLast Go.Proofs.YtcicpmhcmlfhbaaGreatDoorW.PrintMore
set_option linter.unusedVariables false
set_option linter.unusedSimpArgs false
theorem w64_i {x : Int} (h0 : -9223372036854775808 ≤ x) (h1 : x ≤ 9223372036854775807) : wrap64 x = x := by
  unfold wrap64; omega
theorem w64_succ {i : Nat} (h : i < 9223372036854775807) : wrap64 ((i : Int) + 1) = ((i + 1 : Nat) : Int) := by
  rw [w64_i (by omega) (by omega)]; omega
/-- The letters of the directions. -/
def dirL : List UInt8 := [117, 100, 108, 114, 102, 98]
def dirIdx (x : Int) : Int := Lib.indexByte dirL x.toNat.toUInt8
theorem spec_idx : ∀ x : Fin 256, spec_mvIndex.f 8 (x.val : Int) = some (dirIdx (x.val : Int)) := by
  decide +kernel
theorem spec_mvIndex_ev (s : ByteArray) (i : Int) : Ev (fun k => spec_mvIndex.f k (bt s i)) (dirIdx (bt s i)) := by
  have h := bt_range s i
  have := spec_idx ⟨(bt s i).toNat, by omega⟩
  simp only [] at this
  rw [show (((bt s i).toNat : Nat) : Int) = bt s i by omega] at this
  exact Ev.of (fun k => spec_mvIndex.mono _ k) this
/-- Are all letters from i on directions? -/
def dirsFrom (s : ByteArray) (i : Nat) : Bool := (List.range' i (s.size - i)).all fun j => decide (0 ≤ dirIdx (bt s (j : Int)))
theorem dirsFrom_end (s : ByteArray) (i : Nat) (h : s.size ≤ i) : dirsFrom s i = true := by
  unfold dirsFrom; rw [show s.size - i = 0 by omega]; rfl
theorem dirsFrom_step (s : ByteArray) (i : Nat) (h : i < s.size) : dirsFrom s i = (decide (0 ≤ dirIdx (bt s (i : Int))) && dirsFrom s (i + 1)) := by
  unfold dirsFrom
  rw [show s.size - i = (s.size - (i + 1)) + 1 by omega, List.range'_succ, List.all_cons]
theorem spec_steps_from (s : ByteArray) (hs : s.size < 9223372036854775807) : ∀ (d i : Nat), s.size - i = d → i ≤ s.size → Ev (fun k => spec_mvSteps.l0 k s (i : Int)) (dirsFrom s i) := by
  intro d
  induction d with
  | zero =>
    intro i hd hi
    refine ⟨1, fun k hk => ?_⟩
    obtain ⟨k, rfl⟩ : ∃ m, k = m + 1 := ⟨k - 1, by omega⟩
    simp only [spec_mvSteps.l0]
    rw [if_neg (by omega), dirsFrom_end s i (by omega)]
  | succ d ih =>
    intro i hd hi
    have hlt : i < s.size := by omega
    refine Ev.step (f := fun k => (spec_mvIndex.f k (bt s (i : Int))).bind fun t => if t < 0 then some false else spec_mvSteps.l0 k s ((i + 1 : Nat) : Int)) (fun k => ?_) ?_
    · simp only [spec_mvSteps.l0]
      rw [if_pos (by omega), if_pos (by omega), if_pos (by omega), w64_succ (by omega)]
    · refine Ev.bind (spec_mvIndex_ev s i) ?_
      rw [dirsFrom_step s i hlt]
      by_cases h : 0 ≤ dirIdx (bt s (i : Int))
      · rw [decide_eq_true h, Bool.true_and]
        exact Ev.congr (fun k => by rw [if_neg (by omega)]) (ih (i + 1) (by omega) (by omega))
      · rw [decide_eq_false h, Bool.false_and]
        exact Ev.congr (f := fun _ => some false) (fun k => by rw [if_pos (by omega)]) (Ev.now _)
theorem impl_steps_from (s : ByteArray) (hs : s.size < 9223372036854775807) : ∀ (d i : Nat), s.size - i = d → i ≤ s.size → Ev (fun k => impl_hasOnly.l0 k s ⟨#[117, 100, 108, 114, 102, 98]⟩ (s.size : Int) (i : Int)) (dirsFrom s i) := by
  intro d
  induction d with
  | zero =>
    intro i hd hi
    refine ⟨1, fun k hk => ?_⟩
    obtain ⟨k, rfl⟩ : ∃ m, k = m + 1 := ⟨k - 1, by omega⟩
    simp only [impl_hasOnly.l0]
    rw [if_neg (by omega), dirsFrom_end s i (by omega)]
  | succ d ih =>
    intro i hd hi
    have hlt : i < s.size := by omega
    refine Ev.step (f := fun k => if dirIdx (bt s (i : Int)) < 0 then some false else impl_hasOnly.l0 k s ⟨#[117, 100, 108, 114, 102, 98]⟩ (s.size : Int) ((i + 1 : Nat) : Int)) (fun k => ?_) ?_
    · simp only [impl_hasOnly.l0]
      rw [if_pos (by omega), if_pos (by omega), if_pos (by omega), w64_succ (by omega)]
      rfl
    · rw [dirsFrom_step s i hlt]
      by_cases h : 0 ≤ dirIdx (bt s (i : Int))
      · rw [decide_eq_true h, Bool.true_and]
        exact Ev.congr (fun k => by rw [if_neg (by omega)]) (ih (i + 1) (by omega) (by omega))
      · rw [decide_eq_false h, Bool.false_and]
        exact Ev.congr (f := fun _ => some false) (fun k => by rw [if_pos (by omega)]) (Ev.now _)
/-- A valid movement. -/
def mvOK (s : ByteArray) (n : Int) : Bool := decide (s.size ≤ 6) && (dirsFrom s 0 && (decide (1 ≤ n ∧ n ≤ 3) && (decide (¬ s.toList = []) || n == 1)))
theorem mvOK_ends {g : Nat → Option Bool} {s : ByteArray} {n : Int} (h : Ev g (dirsFrom s 0)) (w : Int → Int → Int → Option Bool) (hw : ∀ x, w x 1 3 = some (decide (1 ≤ x ∧ x ≤ 3))) :
    Ev (fun k => if (s.size : Int) ≤ 6 then ((g k).bind fun t178 => (if t178 = true then ((w n 1 3).bind fun t179 => (if t179 = true then (if s.toList = ([] : List UInt8) then (some (n == 1)) else (some true)) else (some false))) else (some false))) else (some false)) (mvOK s n) := by
  unfold mvOK
  by_cases h6 : s.size ≤ 6
  · rw [decide_eq_true h6, Bool.true_and]
    refine Ev.congr (fun k => if_pos (by omega)) (Ev.bind h ?_)
    cases dirsFrom s 0
    · exact Ev.now _
    · rw [hw]
      by_cases h13 : 1 ≤ n ∧ n ≤ 3
      · rw [decide_eq_true h13]
        by_cases he : s.toList = []
        · simp only [he, if_true, Option.bind_some, Bool.true_and, not_true_eq_false, decide_false, Bool.false_or]; exact Ev.now _
        · simp only [he, if_true, if_false, Option.bind_some, Bool.true_and, not_false_eq_true, decide_true, Bool.true_or]; exact Ev.now _
      · rw [decide_eq_false h13]
        exact Ev.now _
  · rw [decide_eq_false h6, Bool.false_and]
    exact Ev.congr (f := fun _ => some false) (fun k => if_neg (by omega)) (Ev.now _)
theorem l1In13 (x : Int) : spec_l1In.f x 1 3 = some (decide (1 ≤ x ∧ x ≤ 3)) := by
  unfold spec_l1In.f
  by_cases h : x ≥ 1
  · rw [if_pos h]; simp [h]
  · rw [if_neg h]; simp; omega
theorem within13 (x : Int) : impl_within.f x 1 3 = some (decide (1 ≤ x ∧ x ≤ 3)) := by
  unfold impl_within.f
  by_cases h : x ≥ 1
  · rw [if_pos h]; simp [h]
  · rw [if_neg h]; simp; omega
theorem spec_mvGood_ev (s : ByteArray) (n : Int) (hs : s.size < 9223372036854775807) : Ev (fun k => spec_mvGood.f k s n) (mvOK s n) :=
  mvOK_ends (spec_steps_from s hs (s.size - 0) 0 rfl (by omega)) spec_l1In.f l1In13
theorem impl_IsMove_ev (s : ByteArray) (n : Int) (hs : s.size < 9223372036854775807) : Ev (fun k => impl_IsMove.f k s n) (mvOK s n) :=
  mvOK_ends (impl_steps_from s hs (s.size - 0) 0 rfl (by omega)) impl_within.f within13
theorem mvOK_parts {s : ByteArray} {n : Int} (h : mvOK s n = true) : s.size ≤ 6 ∧ 1 ≤ n ∧ n ≤ 3 ∧ (s.toList = [] → n = 1) := by
  unfold mvOK at h
  simp only [Bool.and_eq_true, decide_eq_true_eq, Bool.or_eq_true, beq_iff_eq] at h
  obtain ⟨h1, _, h2, h3⟩ := h
  refine ⟨h1, h2.1, h2.2, fun he => ?_⟩
  rcases h3 with h3 | h3
  · exact absurd he h3
  · exact h3
/-- A text c times. -/
def rep (s : ByteArray) (c : Nat) : ByteArray := ⟨(Lib.repeatL s.data.toList c).toArray⟩
theorem rep_list (s : ByteArray) (c : Nat) : (rep s c).data.toList = Lib.repeatL s.data.toList c := by simp [rep]
theorem rep_size (s : ByteArray) (c : Nat) : (rep s c).size = c * s.size := by
  show (Lib.repeatL s.data.toList c).toArray.size = _
  rw [List.size_toArray, Lib.repeatL_length]; rfl
theorem repeatL_snoc (l : List UInt8) : ∀ c, Lib.repeatL l c ++ l = l ++ Lib.repeatL l c
  | 0 => by simp [Lib.repeatL]
  | c + 1 => by simp only [Lib.repeatL, List.append_assoc]; rw [repeatL_snoc l c]
theorem bs_ext {a b : ByteArray} (h : a.data.toList = b.data.toList) : a = b := by
  obtain ⟨⟨a⟩⟩ := a; obtain ⟨⟨b⟩⟩ := b; simp at h; rw [h]
/-- All steps of a movement. -/
def mvSt (s : ByteArray) (n : Int) : ByteArray := rep s n.toNat
theorem mvSt_size {s : ByteArray} {n : Int} (h : mvOK s n = true) : (mvSt s n).size ≤ 18 := by
  obtain ⟨h1, h2, h3, _⟩ := mvOK_parts h
  unfold mvSt
  rw [rep_size]
  exact Nat.le_trans (Nat.mul_le_mul (show n.toNat ≤ 3 by omega) h1) (by omega)
def asV (s : ByteArray) (n : Int) : ByteArray × Bool := if mvOK s n = true then (mvSt s n, true) else (⟨#[]⟩, false)
def smV (s : ByteArray) (n : Int) (t : ByteArray) (m : Int) : Bool × Bool := if mvOK s n = true ∧ mvOK t m = true then ((mvSt s n).toList == (mvSt t m).toList, true) else (false, false)
theorem Ev.shift {α : Type} {g : Nat → Option α} {r : α} (h : Ev (fun k => g (k + 1)) r) : Ev g r := Ev.step (fun _ => rfl) h
/-- The first r-th part of a text. -/
def moCut (s : ByteArray) (r : Nat) : ByteArray := s.extract 0 (s.size / r)
def moRep (s : ByteArray) (r : Nat) : ByteArray := ⟨(Lib.repeatL (moCut s r).data.toList r).toArray⟩
/-- Is the text its r-th part r times, and this of at most six letters? -/
def moHit (s : ByteArray) (r : Nat) : Bool := decide ((moCut s r).size ≤ 6) && ((moRep s r).toList == s.toList)
def moV (s : ByteArray) : ByteArray × Int × Bool :=
  if s.toList = [] then (⟨#[]⟩, 1, true) else if moHit s 3 = true then (moCut s 3, 3, true) else if moHit s 2 = true then (moCut s 2, 2, true) else if moHit s 1 = true then (moCut s 1, 1, true) else (⟨#[]⟩, 0, false)
def MoRel (a0 : ByteArray) (x : Nat) : Prop := x ≤ 3 ∧ ∀ r, x < r → r ≤ 3 → moHit a0 r = false
theorem moRel_step {a0 : ByteArray} {x : Nat} (h : MoRel a0 (x + 1)) (hm : moHit a0 (x + 1) = false) : MoRel a0 x := by
  refine ⟨by have := h.1; omega, fun r hr hr3 => ?_⟩
  by_cases e : r = x + 1
  · subst e; exact hm
  · exact h.2 r (by omega) hr3
theorem moCut_size (a0 : ByteArray) (r : Nat) : (moCut a0 r).size = min (a0.size / r) a0.size := by
  unfold moCut; rw [ByteArray.size_extract, Nat.sub_zero]
theorem moCut_one (a0 : ByteArray) : moCut a0 1 = a0 := by
  unfold moCut; rw [Nat.div_one]; exact ByteArray.extract_zero_size
theorem moV_hit {a0 : ByteArray} {x : Nat} (hc : ¬ a0.toList = []) (h : MoRel a0 x) (h1 : 1 ≤ x) (hh : moHit a0 x = true) : moV a0 = (moCut a0 x, (x : Int), true) := by
  unfold moV
  rw [if_neg hc]
  have := h.1
  have e : x = 3 ∨ x = 2 ∨ x = 1 := by omega
  rcases e with rfl | rfl | rfl
  · rw [if_pos hh]; rfl
  · rw [if_neg (by rw [h.2 3 (by omega) (by omega)]; decide), if_pos hh]; rfl
  · rw [if_neg (by rw [h.2 3 (by omega) (by omega)]; decide), if_neg (by rw [h.2 2 (by omega) (by omega)]; decide), if_pos hh]; rfl
theorem moV_none {a0 : ByteArray} (hc : ¬ a0.toList = []) (h : MoRel a0 0) : moV a0 = (⟨#[]⟩, 0, false) := by
  unfold moV
  rw [if_neg hc, if_neg (by rw [h.2 3 (by omega) (by omega)]; decide), if_neg (by rw [h.2 2 (by omega) (by omega)]; decide), if_neg (by rw [h.2 1 (by omega) (by omega)]; decide)]
/-- Are the first n letters, t times, the text? -/
def PN (s : ByteArray) (n t : Nat) : Prop := (rep (s.extract 0 n) t).toList = s.toList
theorem ext_size (s : ByteArray) (n : Nat) (h : n ≤ s.size) : (s.extract 0 n).size = n := by rw [ByteArray.size_extract]; omega
theorem bs_toList_inj {a b : ByteArray} (h : a.toList = b.toList) : a = b := by
  rw [ByteArray.toList_eq, ByteArray.toList_eq] at h
  exact bs_ext h
theorem PN_size {s : ByteArray} {n t : Nat} (h : n ≤ s.size) (hp : PN s n t) : t * n = s.size := by
  have := congrArg ByteArray.size (bs_toList_inj hp)
  rwa [rep_size, ext_size s n h] at this
theorem moRep_eq (s : ByteArray) (r : Nat) : moRep s r = rep (moCut s r) r := rfl
theorem moHit_iff (s : ByteArray) (r : Nat) : moHit s r = true ↔ (s.size / r ≤ 6 ∧ PN s (s.size / r) r) := by
  unfold moHit
  have h1 : (moCut s r).size = s.size / r := by rw [moCut_size]; have := Nat.div_le_self s.size r; omega
  rw [Bool.and_eq_true, decide_eq_true_eq, beq_iff_eq, h1]
  rfl
def nmV (s : ByteArray) (n : Int) : ByteArray × Int × Bool := if mvOK s n = true then ((moV (mvSt s n)).1, (moV (mvSt s n)).2.1, true) else (⟨#[]⟩, 0, false)
theorem in_val (a b c : Int) : spec_l1In.f a b c = some (decide (b ≤ a ∧ a ≤ c)) := by
  unfold spec_l1In.f
  by_cases h : b ≤ a
  · rw [if_pos h]; simp [h]
  · rw [if_neg h]; simp [h]
theorem rd_at (l : List Int) (i : Nat) (h : i < l.length) : rd l (i : Int) = l[i] := by
  unfold rd
  rw [List.getD_eq_getElem?_getD]
  simp [h]
theorem all_from (l : List Int) (a1 a2 : Int) (hl : l.length ≤ 1000) : ∀ (d i : Nat), l.length - i = d → i ≤ l.length → Ev (fun k => spec_l1All.l0 k a1 a2 l (l.length : Int) (i : Int)) (awAll a1 a2 (l.drop i))
  | 0, i, hd, hi => by
    rw [List.drop_eq_nil_of_le (by omega)]
    refine Ev.step (f := fun _ => some true) (fun k => ?_) (Ev.now _)
    simp only [spec_l1All.l0]
    rw [if_neg (by omega)]
  | d + 1, i, hd, hi => by
    have hlt : i < l.length := by omega
    have hw : wrap64 ((i : Int) + 1) = ((i + 1 : Nat) : Int) := w64_succ (by omega)
    rw [List.drop_eq_getElem_cons hlt]
    by_cases h : a1 ≤ l[i] ∧ l[i] ≤ a2
    · have e : awAll a1 a2 (l[i] :: l.drop (i + 1)) = awAll a1 a2 (l.drop (i + 1)) := by simp only [awAll, List.all_cons, decide_eq_true h, Bool.true_and]
      rw [e]
      refine Ev.step (fun k => ?_) (all_from l a1 a2 hl d (i + 1) (by omega) (by omega))
      simp only [spec_l1All.l0, hw, rd_at l i hlt, in_val]
      rw [if_pos (by omega), if_pos (by omega), if_pos (by omega), Option.bind_some, if_pos (decide_eq_true h)]
    · have e : awAll a1 a2 (l[i] :: l.drop (i + 1)) = false := by simp only [awAll, List.all_cons, decide_eq_false h, Bool.false_and]
      rw [e]
      refine Ev.step (f := fun _ => some false) (fun k => ?_) (Ev.now _)
      simp only [spec_l1All.l0, hw, rd_at l i hlt, in_val]
      rw [if_pos (by omega), if_pos (by omega), if_pos (by omega), Option.bind_some, if_neg (by rw [decide_eq_false h]; decide)]
theorem all_ev (l : List Int) (a1 a2 : Int) (hl : l.length ≤ 1000) : Ev (fun k => spec_l1All.f k l a1 a2) (awAll a1 a2 l) := all_from l a1 a2 hl _ 0 rfl (Nat.zero_le _)
/-- May a shape be spread? -/
def wideV (i m r l : Int) : Bool := if m = 0 then (if i = 0 then true else if r = 0 then true else false) else (if r = 0 then l == 0 else false)
theorem impl_spread (t i m r l : Int) (s : Bool) : impl_Shape_maySpread.f t i m r l s = some (wideV i m r l) := by
  unfold impl_Shape_maySpread.f wideV
  split <;> split <;> (try split) <;> rfl
theorem wide_ev (t i m r l : Int) (s : Bool) : Ev (fun k => spec_shWide.f k t i m r l s) (wideV i m r l) := by
  have w0 : wrap64 0 = 0 := w64_i (by decide) (by decide)
  have w1 : wrap64 1 = 1 := w64_i (by decide) (by decide)
  have w2 : wrap64 2 = 2 := w64_i (by decide) (by decide)
  have w3 : wrap64 3 = 3 := w64_i (by decide) (by decide)
  have w4 : wrap64 4 = 4 := w64_i (by decide) (by decide)
  have s4 : Ev (fun k => spec_shWide.l0 k [i, m, r, l] 4) false := Ev.step (f := fun _ => some false) (fun k => by simp [spec_shWide.l0]) (Ev.now _)
  have s3 : Ev (fun k => spec_shWide.l0 k [i, m, r, l] 3) (decide (r = 0 ∧ l = 0)) := by
    by_cases h : r = 0
    · by_cases h' : l = 0
      · exact Ev.step (f := fun _ => some (decide (r = 0 ∧ l = 0))) (fun k => by simp [spec_shWide.l0, rd, w0, w1, w2, w3, w4, h, h']) (Ev.now _)
      · rw [decide_eq_false (fun e => h' e.2)]; exact Ev.step (fun k => by simp [spec_shWide.l0, rd, w0, w1, w2, w3, w4, h, h']) s4
    · rw [decide_eq_false (fun e => h e.1)]; exact Ev.step (fun k => by simp [spec_shWide.l0, rd, w0, w1, w2, w3, w4, h]) s4
  have s2 : Ev (fun k => spec_shWide.l0 k [i, m, r, l] 2) (decide ((m = 0 ∧ r = 0) ∨ (r = 0 ∧ l = 0))) := by
    by_cases h : m = 0 ∧ r = 0
    · rw [decide_eq_true (.inl h)]; exact Ev.step (f := fun _ => some true) (fun k => by simp [spec_shWide.l0, rd, w0, w1, w2, w3, w4, h.1, h.2]) (Ev.now _)
    · have e : decide ((m = 0 ∧ r = 0) ∨ (r = 0 ∧ l = 0)) = decide (r = 0 ∧ l = 0) := by simp [h]
      rw [e]
      refine Ev.step (fun k => ?_) s3
      by_cases h1 : m = 0
      · have h2 : r ≠ 0 := fun e => h ⟨h1, e⟩
        simp [spec_shWide.l0, rd, w0, w1, w2, w3, w4, h1, h2]
      · simp [spec_shWide.l0, rd, w0, w1, w2, w3, w4, h1]
  have s1 : Ev (fun k => spec_shWide.l0 k [i, m, r, l] 1) (decide ((i = 0 ∧ m = 0) ∨ (m = 0 ∧ r = 0) ∨ (r = 0 ∧ l = 0))) := by
    by_cases h : i = 0 ∧ m = 0
    · rw [decide_eq_true (.inl h)]; exact Ev.step (f := fun _ => some true) (fun k => by simp [spec_shWide.l0, rd, w0, w1, w2, w3, w4, h.1, h.2]) (Ev.now _)
    · have e : decide ((i = 0 ∧ m = 0) ∨ (m = 0 ∧ r = 0) ∨ (r = 0 ∧ l = 0)) = decide ((m = 0 ∧ r = 0) ∨ (r = 0 ∧ l = 0)) := by simp [h]
      rw [e]
      refine Ev.step (fun k => ?_) s2
      by_cases h1 : i = 0
      · have h2 : m ≠ 0 := fun e => h ⟨h1, e⟩
        simp [spec_shWide.l0, rd, w0, w1, w2, w3, w4, h1, h2]
      · simp [spec_shWide.l0, rd, w0, w1, w2, w3, w4, h1]
  have e : wideV i m r l = decide ((i = 0 ∧ m = 0) ∨ (m = 0 ∧ r = 0) ∨ (r = 0 ∧ l = 0)) := by
    unfold wideV
    by_cases h1 : m = 0 <;> by_cases h2 : i = 0 <;> by_cases h3 : r = 0 <;> by_cases h4 : l = 0 <;> simp [h1, h2, h3, h4]
  rw [e]
  unfold spec_shWide.f
  simp only [spec_shFingers.f, Option.bind_some]
  exact s1
/-- A valid shape. -/
def shOK (t i m r l : Int) (s : Bool) : Bool := if awAll 0 2 [t, i, m, r, l] = true then (if s = true then wideV i m r l else true) else false
theorem impl_shape (t i m r l : Int) (s : Bool) : impl_IsShape.f t i m r l s = some (shOK t i m r l s) := by
  unfold impl_IsShape.f shOK
  simp only [Option.bind_some, impl_Shape_bends.f, impl_allWithin.f, impl_spread]
  rw [if_pos (by first | (simp; done) | exact Refl.appLen_of (by simp)), if_pos (by simp), Option.bind_some]
  show (if awAll 0 2 [t, i, m, r, l] = true then _ else _) = _
  split <;> (try split) <;> rfl
theorem spec_shape_ev (t i m r l : Int) (s : Bool) : Ev (fun k => spec_shGood.f k t i m r l s) (shOK t i m r l s) := by
  unfold spec_shGood.f shOK
  simp only [in_val, Option.bind_some, spec_shFingers.f]
  by_cases h : 0 ≤ t ∧ t ≤ 2
  · simp only [decide_eq_true h, if_true]
    refine Ev.bind (all_ev _ _ _ (by simp)) ?_
    have e : awAll 0 2 [t, i, m, r, l] = awAll 0 2 [i, m, r, l] := by unfold awAll; rw [List.all_cons, decide_eq_true h, Bool.true_and]
    rw [e]
    cases awAll 0 2 [i, m, r, l]
    · simp only [Bool.false_eq_true, if_false]; exact Ev.now _
    · simp only [if_true]
      cases s
      · simp only [Bool.false_eq_true, if_false]; exact Ev.now _
      · simp only [if_true]
        exact Ev.bind (wide_ev _ _ _ _ _ _) (Ev.now _)
  · simp only [decide_eq_false h, Bool.false_eq_true, if_false]
    have e : awAll 0 2 [t, i, m, r, l] = false := by simp only [awAll, List.all_cons, decide_eq_false h, Bool.false_and]
    rw [e]
    simp only [Bool.false_eq_true, if_false]
    exact Ev.now _
theorem shOK_in {t i m r l : Int} {s : Bool} (h : shOK t i m r l s = true) : (0 ≤ t ∧ t ≤ 2) ∧ (0 ≤ i ∧ i ≤ 2) ∧ (0 ≤ m ∧ m ≤ 2) ∧ (0 ≤ r ∧ r ≤ 2) ∧ (0 ≤ l ∧ l ≤ 2) := by
  unfold shOK at h
  split at h
  · rename_i h1
    simp only [awAll, List.all_cons, List.all_nil, Bool.and_true, Bool.and_eq_true, decide_eq_true_eq] at h1
    exact h1
  · cases h
/-- A valid orientation. -/
def orOK (p f : Int) : Bool := decide (0 ≤ p ∧ p ≤ 5) && (decide (0 ≤ f ∧ f ≤ 5) && decide (p / 2 ≠ f / 2))
theorem six (p : Int) (h : 0 ≤ p ∧ p ≤ 5) : p = 0 ∨ p = 1 ∨ p = 2 ∨ p = 3 ∨ p = 4 ∨ p = 5 := by omega
theorem impl_orient (p f : Int) : impl_IsOrient.f p f = some (orOK p f) := by
  unfold impl_IsOrient.f orOK
  simp only [aw_within, Option.bind_some]
  by_cases h : 0 ≤ p ∧ p ≤ 5
  · by_cases h' : 0 ≤ f ∧ f ≤ 5
    · rcases six p h with rfl | rfl | rfl | rfl | rfl | rfl <;> rcases six f h' with rfl | rfl | rfl | rfl | rfl | rfl <;> kernel_rfl
    · simp only [decide_eq_true h, decide_eq_false h', if_true, Bool.false_eq_true, if_false, Bool.true_and, Bool.false_and]
  · simp only [decide_eq_false h, Bool.false_eq_true, if_false, Bool.false_and]
theorem spec_orient (p f : Int) : spec_orGood.f p f = some (orOK p f) := by
  unfold spec_orGood.f orOK
  simp only [spec_orDir.f, in_val, Option.bind_some]
  by_cases h : 0 ≤ p ∧ p ≤ 5
  · by_cases h' : 0 ≤ f ∧ f ≤ 5
    · rcases six p h with rfl | rfl | rfl | rfl | rfl | rfl <;> rcases six f h' with rfl | rfl | rfl | rfl | rfl | rfl <;> kernel_rfl
    · simp only [decide_eq_true h, decide_eq_false h', if_true, Bool.false_eq_true, if_false, Bool.true_and, Bool.false_and]
  · simp only [decide_eq_false h, Bool.false_eq_true, if_false, Bool.false_and]
/-- A valid place. -/
def plOK (g s : Int) (c : Bool) : Bool := decide (0 ≤ g ∧ g ≤ 9) && (decide (-1 ≤ s ∧ s ≤ 1) && !(c && g == 0))
theorem impl_place (g s : Int) (c : Bool) : impl_IsPlace.f g s c = some (plOK g s c) := by
  unfold impl_IsPlace.f plOK
  simp only [aw_within, Option.bind_some]
  by_cases h : 0 ≤ g ∧ g ≤ 9
  · by_cases h' : -1 ≤ s ∧ s ≤ 1
    · simp only [decide_eq_true h, decide_eq_true h', if_true, Bool.true_and]
      cases c <;> simp
    · simp only [decide_eq_true h, decide_eq_false h', if_true, Bool.false_eq_true, if_false, Bool.true_and, Bool.false_and]
  · simp only [decide_eq_false h, Bool.false_eq_true, if_false, Bool.false_and]
theorem spec_place (g s : Int) (c : Bool) : spec_plGood.f g s c = some (plOK g s c) := by
  unfold spec_plGood.f plOK
  simp only [in_val, Option.bind_some]
  by_cases h : 0 ≤ g ∧ g ≤ 9
  · by_cases h' : -1 ≤ s ∧ s ≤ 1
    · simp only [decide_eq_true h, decide_eq_true h', if_true, Bool.true_and]
      by_cases h0 : g > 0
      · have e : (g == 0) = false := by simp; omega
        rw [if_pos h0, e]; simp
      · have e : (g == 0) = true := by simp; omega
        rw [if_neg h0, e]; simp
    · simp only [decide_eq_true h, decide_eq_false h', if_true, Bool.false_eq_true, if_false, Bool.true_and, Bool.false_and]
  · simp only [decide_eq_false h, Bool.false_eq_true, if_false, Bool.false_and]
/-- A valid hand. -/
def hdOK (t i m r l : Int) (s : Bool) (p f g d : Int) (c : Bool) (b : ByteArray) (n : Int) : Bool := shOK t i m r l s && (orOK p f && (plOK g d c && mvOK b n))
theorem ten (p : Int) (h : 0 ≤ p ∧ p < 10) : p = 0 ∨ p = 1 ∨ p = 2 ∨ p = 3 ∨ p = 4 ∨ p = 5 ∨ p = 6 ∨ p = 7 ∨ p = 8 ∨ p = 9 := by omega
theorem it_some (v : Int) (h : 0 ≤ v ∧ v < 10) : strconv_Itoa.f v = some (itT v) := by
  unfold strconv_Itoa.f; rw [if_pos (by omega)]
theorem it_size (v : Int) (h : 0 ≤ v ∧ v < 10) : (itT v).size = 1 := by
  rcases ten v h with rfl | rfl | rfl | rfl | rfl | rfl | rfl | rfl | rfl | rfl <;> kernel_rfl
theorem l1_ev (v : Int) (h : 0 ≤ v ∧ v < 10) : Ev (fun k => spec_l1Num.f k v) (itT v) := by
  refine Ev.step (f := fun _ => some (itT v)) (fun k => ?_) (Ev.now _)
  rcases ten v h with rfl | rfl | rfl | rfl | rfl | rfl | rfl | rfl | rfl | rfl <;> kernel_rfl
section
variable (t i m r l : Int) (s : Bool) (p f g d : Int) (c : Bool) (b : ByteArray) (n : Int) (w : Bool) (t' i' m' r' l' : Int) (s' : Bool) (p' f' g' d' : Int) (c' : Bool) (b' : ByteArray) (n' : Int)
/-- The text of a shape. -/
def shTxt : ByteArray := if s = true then ((((itT t ++ itT i) ++ itT m) ++ itT r) ++ itT l) ++ (⟨#[115]⟩ : ByteArray) else (((itT t ++ itT i) ++ itT m) ++ itT r) ++ itT l
theorem app_size (x y : ByteArray) : (x ++ y).size = x.size + y.size := ByteArray.size_append
theorem impl_sh_step (x : ByteArray) (L : List Int) (j : Nat) (hj : j < L.length) (hL : L.length ≤ 1000) (hv : 0 ≤ L[j] ∧ L[j] < 10) (hx : x.size ≤ 1000) {out : ByteArray}
    (h : Ev (fun k => impl_Shape_text.l0 k (x ++ itT L[j]) L (L.length : Int) ((j + 1 : Nat) : Int) t i m r l s) out) : Ev (fun k => impl_Shape_text.l0 k x L (L.length : Int) (j : Int) t i m r l s) out := by
  refine Ev.step (f := fun k => impl_Shape_text.l0 k (x ++ itT L[j]) L (L.length : Int) ((j + 1 : Nat) : Int) t i m r l s) (fun k => ?_) h
  simp only [impl_Shape_text.l0, w64_succ (show j < 9223372036854775807 by omega), rd_at L j hj, it_some _ hv, Option.bind_some]
  rw [if_pos (by omega), if_pos (by omega), if_pos (by omega), if_pos (by rw [it_size _ hv]; omega)]
theorem impl_sh_end (x : ByteArray) (L : List Int) (j : Nat) (hj : L.length ≤ j) (hx : x.size ≤ 1000) : Ev (fun k => impl_Shape_text.l0 k x L (L.length : Int) (j : Int) t i m r l s) (if s = true then x ++ (⟨#[115]⟩ : ByteArray) else x) := by
  refine Ev.step (f := fun k => some (if s = true then x ++ (⟨#[115]⟩ : ByteArray) else x)) (fun k => ?_) (Ev.now _)
  simp only [impl_Shape_text.l0]
  rw [if_neg (by omega), if_pos (show x.size + 1 ≤ 9223372036854775807 by omega)]
  cases s <;> rfl
theorem shTxt_size (ht : 0 ≤ t ∧ t < 10) (hi : 0 ≤ i ∧ i < 10) (hm : 0 ≤ m ∧ m < 10) (hr : 0 ≤ r ∧ r < 10) (hl : 0 ≤ l ∧ l < 10) : (shTxt t i m r l s).size ≤ 6 := by
  unfold shTxt
  split <;> simp only [app_size, it_size _ ht, it_size _ hi, it_size _ hm, it_size _ hr, it_size _ hl] <;> decide
theorem impl_sh_ev (ht : 0 ≤ t ∧ t < 10) (hi : 0 ≤ i ∧ i < 10) (hm : 0 ≤ m ∧ m < 10) (hr : 0 ≤ r ∧ r < 10) (hl : 0 ≤ l ∧ l < 10) : Ev (fun k => impl_Shape_text.f k t i m r l s) (shTxt t i m r l s) := by
  unfold impl_Shape_text.f
  simp only [impl_Shape_bends.f, it_some _ ht, Option.bind_some]
  have z := it_size
  refine impl_sh_step _ _ _ _ _ _ (itT t) [i, m, r, l] 0 (by simp) (by simp) hi (by rw [z _ ht]; decide) ?_
  refine impl_sh_step _ _ _ _ _ _ _ [i, m, r, l] 1 (by simp) (by simp) hm (by show (itT t ++ itT i).size ≤ 1000; rw [app_size, z _ ht, z _ hi]; decide) ?_
  refine impl_sh_step _ _ _ _ _ _ _ [i, m, r, l] 2 (by simp) (by simp) hr (by show ((itT t ++ itT i) ++ itT m).size ≤ 1000; rw [app_size, app_size, z _ ht, z _ hi, z _ hm]; decide) ?_
  refine impl_sh_step _ _ _ _ _ _ _ [i, m, r, l] 3 (by simp) (by simp) hl (by show (((itT t ++ itT i) ++ itT m) ++ itT r).size ≤ 1000; rw [app_size, app_size, app_size, z _ ht, z _ hi, z _ hm, z _ hr]; decide) ?_
  exact impl_sh_end _ _ _ _ _ _ ((((itT t ++ itT i) ++ itT m) ++ itT r) ++ itT l) [i, m, r, l] 4 (by simp) (by rw [app_size, app_size, app_size, app_size, z _ ht, z _ hi, z _ hm, z _ hr, z _ hl]; decide)
/-- The text of an orientation. -/
def orTxt : ByteArray := ((⟨#[117, 100, 108, 114, 102, 98]⟩ : ByteArray).extract p.toNat (p.toNat + 1)) ++ ((⟨#[117, 100, 108, 114, 102, 98]⟩ : ByteArray).extract f.toNat (f.toNat + 1))
/-- The text of a place. -/
def plTxt : ByteArray := plNms.getD g.toNat ⟨#[]⟩ ++ plSide d ++ (if c = true then ⟨#[42]⟩ else ⟨#[]⟩)
theorem pl_txt (hg : 0 ≤ g ∧ g ≤ 9) (hd : -1 ≤ d ∧ d ≤ 1) : spec_plText.f g d c = some (plTxt g d c) ∧ impl_Place_text.f g d c = some (plTxt g d c) ∧ (plTxt g d c).size ≤ 7 := by
  refine ⟨?_, ?_, ?_⟩
  · rcases ten g (by omega) with rfl | rfl | rfl | rfl | rfl | rfl | rfl | rfl | rfl | rfl <;> rcases (show d = -1 ∨ d = 0 ∨ d = 1 by omega) with rfl | rfl | rfl <;> cases c <;> kernel_rfl
  · unfold impl_Place_text.f plTxt; rw [if_pos (by omega)]
  · rcases ten g (by omega) with rfl | rfl | rfl | rfl | rfl | rfl | rfl | rfl | rfl | rfl <;> rcases (show d = -1 ∨ d = 0 ∨ d = 1 by omega) with rfl | rfl | rfl <;> cases c <;> decide
/-- The text of a move. -/
def mvTxt : ByteArray := if b.toList = ([] : List UInt8) then (⟨#[45]⟩ : ByteArray) else if n > 1 then (b ++ (⟨#[42]⟩ : ByteArray)) ++ itT n else b
theorem mvTxt_size (hb : b.size ≤ 1000) (hn : b.toList = [] ∨ (1 ≤ n ∧ n < 10)) : (mvTxt b n).size ≤ 1002 := by
  unfold mvTxt
  split
  · decide
  · rename_i h0
    have hn := hn.resolve_left h0
    split
    · rw [app_size, app_size, it_size n (by omega)]
      have : (⟨#[42]⟩ : ByteArray).size = 1 := rfl
      omega
    · omega
theorem spec_mv_txt (hb : b.size ≤ 1000) (hn : b.toList = [] ∨ (1 ≤ n ∧ n < 10)) : Ev (fun k => spec_mvText.f k b n) (mvTxt b n) := by
  unfold spec_mvText.f mvTxt
  by_cases h : b.toList = ([] : List UInt8)
  · simp only [if_pos h]; exact Ev.now _
  · simp only [if_neg h]
    have hn := hn.resolve_left h
    by_cases h2 : n > 1
    · simp only [if_pos h2, if_pos (show b.size + 1 ≤ 9223372036854775807 by omega)]
      refine Ev.bind (l1_ev n (by omega)) (Ev.congr (f := fun _ => some _) (fun k => if_pos ?_) (Ev.now _))
      rw [app_size, it_size n (by omega)]
      have : (⟨#[42]⟩ : ByteArray).size = 1 := rfl
      omega
    · simp only [if_neg h2]; exact Ev.now _
theorem impl_mv_txt (hb : b.size ≤ 1000) (hn : b.toList = [] ∨ (1 ≤ n ∧ n < 10)) : impl_Move_text.f b n = some (mvTxt b n) := by
  unfold impl_Move_text.f mvTxt
  by_cases h : b.toList = ([] : List UInt8)
  · simp only [if_pos h]
  · simp only [if_neg h]
    have hn := hn.resolve_left h
    by_cases h2 : n > 1
    · have : (⟨#[42]⟩ : ByteArray).size = 1 := rfl
      rw [if_pos h2, if_neg (show ¬ n = 1 by omega), if_pos (by omega), it_some n (by omega)]
      simp only [Option.bind_some]
      rw [if_pos (by rw [app_size, it_size n (by omega)]; omega)]
    · rw [if_neg h2, if_pos (show n = 1 by omega)]
/-- What a hand's text needs. -/
def TxOK : Prop := ((0 ≤ t ∧ t < 10) ∧ (0 ≤ i ∧ i < 10) ∧ (0 ≤ m ∧ m < 10) ∧ (0 ≤ r ∧ r < 10) ∧ (0 ≤ l ∧ l < 10)) ∧ ((0 ≤ p ∧ p ≤ 5) ∧ (0 ≤ f ∧ f ≤ 5)) ∧ ((0 ≤ g ∧ g ≤ 9) ∧ (-1 ≤ d ∧ d ≤ 1)) ∧ b.size ≤ 1000 ∧ (b.toList = [] ∨ (1 ≤ n ∧ n < 10))
theorem hdOK_tx (h : hdOK t i m r l s p f g d c b n = true) : TxOK t i m r l p f g d b n := by
  unfold hdOK at h
  rw [Bool.and_eq_true, Bool.and_eq_true, Bool.and_eq_true] at h
  obtain ⟨h1, h2, h3, h4⟩ := h
  have a := shOK_in h1
  have e := mvOK_parts h4
  unfold orOK at h2
  unfold plOK at h3
  rw [Bool.and_eq_true, Bool.and_eq_true, decide_eq_true_eq, decide_eq_true_eq] at h2
  rw [Bool.and_eq_true, Bool.and_eq_true, decide_eq_true_eq, decide_eq_true_eq] at h3
  exact ⟨⟨by omega, by omega, by omega, by omega, by omega⟩, ⟨h2.1, h2.2.1⟩, ⟨h3.1, h3.2.1⟩, by omega, .inr (by omega)⟩
end
/-- The pieces of a list between letters c, the first one begun. -/
def spl (c : UInt8) : List UInt8 → List UInt8 → List (List UInt8)
  | cur, [] => [cur]
  | cur, x :: r => if x = c then cur :: spl c [] r else spl c (cur ++ [x]) r
def bsOf (l : List UInt8) : ByteArray := ⟨l.toArray⟩
/-- The pieces of a text. -/
def splV (s : ByteArray) (c : UInt8) : List ByteArray := (spl c [] s.data.toList).map bsOf
theorem bsOf_list (l : List UInt8) : (bsOf l).data.toList = l := by simp [bsOf]
theorem bsOf_self (s : ByteArray) : bsOf s.data.toList = s := by
  obtain ⟨⟨a⟩⟩ := s; simp [bsOf]
theorem spl_no {c : UInt8} : ∀ {l cur : List UInt8}, c ∉ l → spl c cur l = [cur ++ l]
  | [], cur, _ => by simp [spl]
  | x :: r, cur, h => by
    rw [List.mem_cons, not_or] at h
    rw [spl, if_neg (fun e => h.1 e.symm), spl_no h.2]
    simp
theorem spl_at {c : UInt8} {b : List UInt8} : ∀ {a cur : List UInt8}, c ∉ a → spl c cur (a ++ c :: b) = (cur ++ a) :: spl c [] b
  | [], cur, _ => by simp [spl]
  | x :: r, cur, h => by
    rw [List.mem_cons, not_or] at h
    rw [List.cons_append, spl, if_neg (fun e => h.1 e.symm), spl_at h.2]
    simp
theorem spl_len {c : UInt8} : ∀ {l cur : List UInt8}, (spl c cur l).length = l.count c + 1
  | [], cur => by simp [spl]
  | x :: r, cur => by
    rw [spl]
    by_cases e : x = c
    · subst e
      rw [if_pos rfl, List.length_cons, spl_len, List.count_cons_self]
    · rw [if_neg e, spl_len, List.count_cons_of_ne e]
theorem extract_snoc (s : ByteArray) (j i : Nat) (hj : j ≤ i) (h : i < s.size) : (s.extract j (i + 1)).data.toList = (s.extract j i).data.toList ++ [s.data.toList[i]'(by rw [Array.length_toList]; exact h)] := by
  have hl : s.data.toList.length = s.size := Array.length_toList
  simp only [ByteArray.data_extract, Array.toList_extract, List.extract_eq_take_drop]
  rw [show i + 1 - j = (i - j) + 1 by omega, List.take_add_one]
  congr 1
  rw [List.getElem?_drop, show j + (i - j) = i by omega, List.getElem?_eq_getElem (by omega)]
  rfl
theorem extract_none (s : ByteArray) (i : Nat) : (s.extract i i).data.toList = [] := by
  simp [ByteArray.data_extract, Array.toList_extract, List.extract_eq_take_drop]
theorem bt_list (s : ByteArray) (i : Nat) (h : i < s.size) : bt s (i : Int) = ((s.data.toList[i]'(by rw [Array.length_toList]; exact h)).toNat : Int) := by
  unfold bt
  rw [dif_pos (show (i : Int).toNat < s.size from h)]
  rw [Array.getElem_toList]
  rfl
theorem sw64 {x : Int} (h0 : -9223372036854775808 ≤ x) (h1 : x ≤ 9223372036854775807) : wrap64 x = x := by
  unfold wrap64; omega
theorem spec_split_from (s : ByteArray) (c : UInt8) (hs : s.size ≤ 1048576) : ∀ (d i j : Nat) (acc : List ByteArray), s.size - i = d → j ≤ i → i ≤ s.size → acc.length ≤ i →
    Ev (fun k => spec_l1Split.l0 k s (c.toNat : Int) acc (j : Int) (i : Int)) (acc ++ (spl c (s.extract j i).data.toList (s.data.toList.drop i)).map bsOf) := by
  have hl : s.data.toList.length = s.size := Array.length_toList
  intro d
  induction d with
  | zero =>
    intro i j acc hd hj hi ha
    obtain rfl : i = s.size := by omega
    refine Ev.step (f := fun _ => some (acc ++ [s.extract j s.size])) (fun k => ?_) ?_
    · simp only [spec_l1Split.l0]
      rw [if_neg (by omega), if_pos (by omega), if_pos (by omega), if_pos (by omega)]
      rfl
    · rw [List.drop_eq_nil_of_le (by omega)]
      simp only [spl, List.map_cons, List.map_nil, bsOf_self]
      exact Ev.now _
  | succ d ih =>
    intro i j acc hd hj hi ha
    have hlt : i < s.size := by omega
    have hd1 : s.data.toList.drop i = s.data.toList[i]'(by omega) :: s.data.toList.drop (i + 1) := List.drop_eq_getElem_cons (by omega)
    rw [hd1, spl]
    have hw : wrap64 ((i : Int) + 1) = ((i + 1 : Nat) : Int) := by rw [sw64 (by omega) (by omega)]; omega
    by_cases e : s.data.toList[i]'(by omega) = c
    · rw [if_pos e]
      have := ih (i + 1) (i + 1) (acc ++ [s.extract j i]) (by omega) (by omega) (by omega) (by simp; omega)
      rw [extract_none] at this
      have e2 : acc ++ List.map bsOf ((s.extract j i).data.toList :: spl c [] (s.data.toList.drop (i + 1))) = acc ++ [s.extract j i] ++ List.map bsOf (spl c [] (s.data.toList.drop (i + 1))) := by
        rw [List.map_cons, bsOf_self, List.append_assoc]
        rfl
      rw [e2]
      refine Ev.step (fun k => ?_) this
      simp only [spec_l1Split.l0]
      rw [if_pos (by omega), if_pos (by omega), if_pos (by omega), if_pos (by rw [bt_list s i hlt, e]), if_pos (by omega), if_pos (by omega), if_pos (by omega), if_pos (by omega), hw]
      rfl
    · rw [if_neg e]
      have := ih (i + 1) j acc (by omega) (by omega) (by omega) (by omega)
      rw [extract_snoc s j i hj hlt] at this
      refine Ev.step (fun k => ?_) this
      simp only [spec_l1Split.l0]
      rw [if_pos (by omega), if_pos (by omega), if_pos (by omega), if_neg (by
        rw [bt_list s i hlt]
        intro h
        apply e
        have h2 : (s.data.toList[i]'(by omega)).toNat = c.toNat := by omega
        exact UInt8.toNat_inj.mp h2), hw]
theorem spec_split_ev (s : ByteArray) (c : UInt8) (hs : s.size ≤ 1048576) : Ev (fun k => spec_l1Split.f k s (c.toNat : Int)) (splV s c) := by
  have := spec_split_from s c hs _ 0 0 [] rfl (Nat.le_refl _) (Nat.zero_le _) (Nat.zero_le _)
  rw [extract_none] at this
  unfold spec_l1Split.f
  simpa [splV] using this
/-- The first c of a list, or none. -/
theorem first_at (c : UInt8) : ∀ l : List UInt8, c ∉ l ∨ ∃ a b, l = a ++ c :: b ∧ c ∉ a
  | [] => .inl (by simp)
  | x :: r => by
    by_cases e : x = c
    · exact .inr ⟨[], r, by simp [e], by simp⟩
    · rcases first_at c r with h | ⟨a, b, rfl, h⟩
      · exact .inl (by rw [List.mem_cons, not_or]; exact ⟨fun h' => e h'.symm, h⟩)
      · exact .inr ⟨x :: a, b, rfl, by rw [List.mem_cons, not_or]; exact ⟨fun h' => e h'.symm, h⟩⟩
theorem idx_no {c : UInt8} : ∀ {l : List UInt8}, c ∉ l → Lib.indexByte l c = -1
  | [], _ => rfl
  | x :: r, h => by
    rw [List.mem_cons, not_or] at h
    rw [Lib.indexByte, if_neg (by simpa using fun e => h.1 e.symm), idx_no h.2]
    rfl
theorem idx_at {c : UInt8} {b : List UInt8} : ∀ {a : List UInt8}, c ∉ a → Lib.indexByte (a ++ c :: b) c = (a.length : Int)
  | [], _ => by simp [Lib.indexByte]
  | x :: r, h => by
    rw [List.mem_cons, not_or] at h
    rw [List.cons_append, Lib.indexByte, if_neg (by simpa using fun e => h.1 e.symm), idx_at h.2, if_neg (by simp <;> omega)]
    simp
/-- A text, cut at the first of a letter. -/
def ctV (s : ByteArray) (c : UInt8) : ByteArray × ByteArray × Bool :=
  if Lib.indexByte s.data.toList c < 0 then (s, ⟨#[]⟩, false)
  else (s.extract 0 (Lib.indexByte s.data.toList c).toNat, s.extract ((Lib.indexByte s.data.toList c).toNat + 1) s.size, true)
theorem bs_len (s : ByteArray) : s.data.toList.length = s.size := Array.length_toList
theorem bt_at (s : ByteArray) (i : Nat) (h : i < s.size) : bt s (i : Int) = ((s.data.toList[i]'(by rw [bs_len]; exact h)).toNat : Int) := by
  unfold bt
  rw [dif_pos (show (i : Int).toNat < s.size from h)]
  rw [Array.getElem_toList]
  rfl
theorem dirs_list (s : ByteArray) : dirsFrom s 0 = s.data.toList.all fun x => decide (0 ≤ dirIdx (x.toNat : Int)) := by
  rw [Bool.eq_iff_iff, List.all_eq_true]
  unfold dirsFrom
  rw [List.all_eq_true]
  constructor
  · intro h x hx
    obtain ⟨i, hi, rfl⟩ := List.getElem_of_mem hx
    have hi' : i < s.size := by rw [← bs_len]; exact hi
    have := h i (List.mem_range'.mpr ⟨i, by omega, by omega⟩)
    rw [bt_at s i hi'] at this
    exact this
  · intro h j hj
    obtain ⟨i, hi, rfl⟩ := List.mem_range'.mp hj
    have hi' : 0 + 1 * i < s.size := by omega
    rw [bt_at s _ hi']
    exact h _ (List.getElem_mem ..)
theorem all_rep {p : UInt8 → Bool} {l : List UInt8} (h : l.all p = true) : ∀ c, (Lib.repeatL l c).all p = true
  | 0 => by simp [Lib.repeatL]
  | c + 1 => by simp only [Lib.repeatL, List.all_append, h, all_rep h c, Bool.and_self]
theorem ext_list (s : ByteArray) (n : Nat) : (s.extract 0 n).data.toList = s.data.toList.take n := by
  simp [ByteArray.data_extract, Array.toList_extract, List.extract_eq_take_drop]
theorem all_take {p : UInt8 → Bool} {l : List UInt8} (h : l.all p = true) (n : Nat) : (l.take n).all p = true := by
  rw [List.all_eq_true] at h ⊢
  exact fun x hx => h x (List.mem_of_mem_take hx)
theorem mvOK_dirs {s : ByteArray} {n : Int} (h : mvOK s n = true) : (s.data.toList.all fun x => decide (0 ≤ dirIdx (x.toNat : Int))) = true := by
  rw [← dirs_list]
  unfold mvOK at h
  simp only [Bool.and_eq_true] at h
  exact h.2.1
theorem mvOK_of {s : ByteArray} {n : Int} (h6 : s.size ≤ 6) (hd : (s.data.toList.all fun x => decide (0 ≤ dirIdx (x.toNat : Int))) = true) (h1 : 1 ≤ n ∧ n ≤ 3) (he : s.toList = [] → n = 1) : mvOK s n = true := by
  unfold mvOK
  rw [dirs_list, hd, decide_eq_true h6, decide_eq_true h1]
  by_cases e : s.toList = []
  · simp [he e]
  · simp [e]
theorem list_nil {s : ByteArray} : s.toList = [] ↔ s.size = 0 := by
  rw [← bs_list, ← List.length_eq_zero_iff, bs_len]
/-- What a normal form is. -/
theorem nm_props {s : ByteArray} {n : Int} (h : mvOK s n = true) :
    (moV (mvSt s n)).2.2 = true ∧ mvOK (moV (mvSt s n)).1 (moV (mvSt s n)).2.1 = true ∧ mvSt (moV (mvSt s n)).1 (moV (mvSt s n)).2.1 = mvSt s n ∧ (moV (mvSt s n)).1.size ≤ s.size := by
  obtain ⟨h6, h1, h3, h0⟩ := mvOK_parts h
  have hd := mvOK_dirs h
  generalize ht : mvSt s n = t
  by_cases he : t.toList = []
  · have e : moV t = (⟨#[]⟩, 1, true) := by unfold moV; rw [if_pos he]
    rw [e]
    refine ⟨rfl, by decide +kernel, ?_, Nat.zero_le _⟩
    refine bs_ext ?_
    rw [← bs_list] at he
    rw [he]
    rfl
  · obtain ⟨r, rfl⟩ : ∃ r : Nat, n = (r : Int) := ⟨n.toNat, by omega⟩
    have hr1 : 1 ≤ r := by omega
    have hr3 : r ≤ 3 := by omega
    have hrep : rep s r = t := by rw [← ht]; rfl
    have hsz : t.size = r * s.size := by rw [← hrep, rep_size]
    have hdt : (t.data.toList.all fun x => decide (0 ≤ dirIdx (x.toNat : Int))) = true := by rw [← hrep, rep_list]; exact all_rep hd r
    have hdiv : t.size / r = s.size := by rw [hsz, Nat.mul_comm]; exact Nat.mul_div_cancel _ (by omega)
    have hpre : t.extract 0 s.size = s := by
      refine bs_ext ?_
      rw [ext_list, ← hrep, rep_list]
      obtain ⟨c, rfl⟩ : ∃ c, r = c + 1 := ⟨r - 1, by omega⟩
      simp only [Lib.repeatL]
      rw [← bs_len, List.take_left]
    have hit : moHit t r = true := (moHit_iff t r).mpr ⟨by rw [hdiv]; exact h6, by unfold PN; rw [hdiv, hpre, hrep]⟩
    obtain ⟨x, hx1, hx3, hxr, hxh, hv⟩ : ∃ x, 1 ≤ x ∧ x ≤ 3 ∧ r ≤ x ∧ moHit t x = true ∧ moV t = (moCut t x, (x : Int), true) := by
      by_cases g3 : moHit t 3 = true
      · exact ⟨3, by omega, by omega, hr3, g3, by unfold moV; rw [if_neg he, if_pos g3]; rfl⟩
      · by_cases g2 : moHit t 2 = true
        · have : r ≠ 3 := fun e => by subst e; exact g3 hit
          exact ⟨2, by omega, by omega, by omega, g2, by unfold moV; rw [if_neg he, if_neg g3, if_pos g2]; rfl⟩
        · have e3 : r ≠ 3 := fun e => by subst e; exact g3 hit
          have e2 : r ≠ 2 := fun e => by subst e; exact g2 hit
          have e1 : r = 1 := by omega
          subst e1
          exact ⟨1, by omega, by omega, by omega, hit, by unfold moV; rw [if_neg he, if_neg g3, if_neg g2, if_pos hit]; rfl⟩
    rw [hv]
    obtain ⟨q1, q2⟩ := (moHit_iff t x).mp hxh
    have hc : (moCut t x).size = t.size / x := by rw [moCut_size]; have := Nat.div_le_self t.size x; omega
    have hst : rep (moCut t x) x = t := bs_toList_inj q2
    refine ⟨rfl, mvOK_of (by simp only []; omega) ?_ ⟨by simp only []; omega, by simp only []; omega⟩ (fun e => ?_), ?_, ?_⟩
    · simp only []
      unfold moCut
      rw [ext_list]
      exact all_take hdt _
    · exfalso
      apply he
      rw [list_nil] at e ⊢
      rw [← hst, rep_size]
      simp only [] at e
      rw [e, Nat.mul_zero]
    · show rep (moCut t x) (x : Int).toNat = t
      exact hst
    · simp only []
      rw [hc, ← hdiv]
      exact Nat.div_le_div_left hxr (by omega)
/-- The movement with a text. -/
def psV (u : ByteArray) : ByteArray × Int × Bool :=
  if (42 : UInt8) ∈ u.data.toList then
    (if (ctV u 42).2.1.toList = [50] ∧ mvOK (ctV u 42).1 2 = true then ((ctV u 42).1, 2, true)
    else if (ctV u 42).2.1.toList = [51] ∧ mvOK (ctV u 42).1 3 = true then ((ctV u 42).1, 3, true) else (⟨#[]⟩, 0, false))
  else if u.toList = [45] then (⟨#[]⟩, 1, true) else if mvOK u 1 = true ∧ ¬ u.toList = [] then (u, 1, true) else (⟨#[]⟩, 0, false)
theorem ct_at {u : ByteArray} {a b : List UInt8} (h : u.data.toList = a ++ 42 :: b) (ha : (42 : UInt8) ∉ a) : ctV u 42 = (bsOf a, bsOf b, true) := by
  unfold ctV
  rw [h, idx_at ha, if_neg (by omega)]
  have h1 : u.extract 0 a.length = bsOf a := by
    refine bs_ext ?_
    rw [ext_list, h, bsOf_list, List.take_left]
  have h2 : u.extract (a.length + 1) u.size = bsOf b := by
    refine bs_ext ?_
    have hl := bs_len u
    simp only [ByteArray.data_extract, Array.toList_extract, List.extract_eq_take_drop, bsOf_list]
    rw [h] at hl ⊢
    rw [show a ++ 42 :: b = (a ++ [42]) ++ b by simp, List.drop_left' (by simp), List.take_of_length_le]
    simp at hl
    omega
  simp only [Int.toNat_natCast, h1, h2]
theorem ct_no {u : ByteArray} (h : (42 : UInt8) ∉ u.data.toList) : ctV u 42 = (u, ⟨#[]⟩, false) := by
  unfold ctV
  rw [idx_no h, if_pos (by decide)]
/-- What is made of steps and a number, behind the cut. -/
def endV (u s : ByteArray) (n : Int) : ByteArray × Int × Bool := if mvOK s n = true then (if (mvTxt s n).toList = u.toList then (s, n, true) else (⟨#[]⟩, 0, false)) else (⟨#[]⟩, 0, false)
theorem mvOK_txt {s : ByteArray} {n : Int} (h : mvOK s n = true) : s.size ≤ 1000 ∧ (s.toList = [] ∨ (1 ≤ n ∧ n < 10)) := by
  obtain ⟨h6, h1, h3, _⟩ := mvOK_parts h
  exact ⟨by omega, .inr ⟨h1, by omega⟩⟩
theorem dir42 : decide (0 ≤ dirIdx ((42 : UInt8).toNat : Int)) = false := by decide +kernel
theorem dir45 : decide (0 ≤ dirIdx ((45 : UInt8).toNat : Int)) = false := by decide +kernel
theorem mvOK_42 {s : ByteArray} {n : Int} (h : mvOK s n = true) : (42 : UInt8) ∉ s.data.toList := fun hm => by
  have := List.all_eq_true.mp (mvOK_dirs h) _ hm
  rw [dir42] at this
  cases this
theorem mvOK_45 {s : ByteArray} {n : Int} (h : mvOK s n = true) : (45 : UInt8) ∉ s.data.toList := fun hm => by
  have := List.all_eq_true.mp (mvOK_dirs h) _ hm
  rw [dir45] at this
  cases this
theorem mvOK_ne {s : ByteArray} {n : Int} (h : mvOK s n = true) (hn : 1 < n) : ¬ s.toList = [] := fun e => by
  have := (mvOK_parts h).2.2.2 e
  omega
theorem it2 : (itT 2).data.toList = [50] := by decide +kernel
theorem it3 : (itT 3).data.toList = [51] := by decide +kernel
/-- Without a star. -/
theorem end_no {u : ByteArray} (h : (42 : UInt8) ∉ u.data.toList) : endV u (if u.toList = [45] then ⟨#[]⟩ else u) 1 = psV u := by
  unfold psV
  rw [if_neg h]
  by_cases e : u.toList = [45]
  · rw [if_pos e, if_pos e]
    unfold endV
    rw [if_pos (by decide +kernel), if_pos (by rw [e]; decide +kernel)]
  · rw [if_neg e, if_neg e]
    unfold endV
    by_cases hv : mvOK u 1 = true
    · rw [if_pos hv]
      by_cases h0 : u.toList = []
      · rw [if_neg (fun e2 => by unfold mvTxt at e2; rw [if_pos h0, h0] at e2; exact absurd e2 (by decide +kernel)), if_neg (fun e2 => e2.2 h0)]
      · rw [if_pos (by unfold mvTxt; rw [if_neg h0, if_neg (by decide)]), if_pos ⟨hv, h0⟩]
    · rw [if_neg hv, if_neg (fun e2 => hv e2.1)]
/-- With a star: what stands behind it is 2 or 3, or nothing is made. -/
theorem end_star {u : ByteArray} {a b : List UInt8} (h : u.data.toList = a ++ 42 :: b) (ha : (42 : UInt8) ∉ a) (n : Int) (h2 : b = [50] → n = 2) (h3 : b = [51] → n = 3) : endV u (bsOf a) n = psV u := by
  unfold psV
  have hm : (42 : UInt8) ∈ u.data.toList := by rw [h]; simp
  rw [if_pos hm, ct_at h ha]
  simp only []
  have hb : (bsOf b).toList = b := by rw [← bs_list, bsOf_list]
  rw [hb]
  have key : mvOK (bsOf a) n = true → (mvTxt (bsOf a) n).toList = u.toList → (b = [50] ∧ n = 2) ∨ (b = [51] ∧ n = 3) := by
    intro hv ht
    obtain ⟨h6, h1, h4, h0⟩ := mvOK_parts hv
    rw [← bs_list, ← bs_list, h] at ht
    unfold mvTxt at ht
    by_cases e : (bsOf a).toList = []
    · rw [if_pos e] at ht
      have : (42 : UInt8) ∈ (⟨#[45]⟩ : ByteArray).data.toList := by rw [ht]; simp
      exact absurd this (by decide)
    · rw [if_neg e] at ht
      by_cases g : n > 1
      · rw [if_pos g] at ht
        simp only [ByteArray.data_append, Array.toList_append, bsOf_list, List.append_assoc] at ht
        have ht2 := List.append_cancel_left ht
        simp only [List.singleton_append, List.cons.injEq, true_and] at ht2
        have hn : n = 2 ∨ n = 3 := by omega
        rcases hn with rfl | rfl
        · exact .inl ⟨by rw [← ht2]; exact it2, rfl⟩
        · exact .inr ⟨by rw [← ht2]; exact it3, rfl⟩
      · rw [if_neg g, bsOf_list] at ht
        have : (42 : UInt8) ∈ a := by rw [ht]; simp
        exact absurd this ha
  have make : ∀ m : Int, (m = 2 ∧ b = [50]) ∨ (m = 3 ∧ b = [51]) → mvOK (bsOf a) m = true → (mvTxt (bsOf a) m).toList = u.toList := by
    intro m hmb hv
    rw [← bs_list, ← bs_list, h]
    unfold mvTxt
    rcases hmb with ⟨rfl, rfl⟩ | ⟨rfl, rfl⟩
    · rw [if_neg (mvOK_ne hv (by decide)), if_pos (by decide)]
      simp only [ByteArray.data_append, Array.toList_append, bsOf_list, it2, List.append_assoc]
      rfl
    · rw [if_neg (mvOK_ne hv (by decide)), if_pos (by decide)]
      simp only [ByteArray.data_append, Array.toList_append, bsOf_list, it3, List.append_assoc]
      rfl
  unfold endV
  by_cases b2 : b = [50]
  · obtain rfl := h2 b2
    by_cases hv : mvOK (bsOf a) 2 = true
    · rw [if_pos hv, if_pos (make 2 (.inl ⟨rfl, b2⟩) hv), if_pos ⟨b2, hv⟩]
    · rw [if_neg hv, if_neg (fun e => hv e.2), if_neg (fun e => by rw [b2] at e; exact absurd e.1 (by decide))]
  · rw [if_neg (show ¬ (b = [50] ∧ mvOK (bsOf a) 2 = true) from fun e => b2 e.1)]
    by_cases b3 : b = [51]
    · obtain rfl := h3 b3
      by_cases hv : mvOK (bsOf a) 3 = true
      · rw [if_pos hv, if_pos (make 3 (.inr ⟨rfl, b3⟩) hv), if_pos ⟨b3, hv⟩]
      · rw [if_neg hv, if_neg (fun e => hv e.2)]
    · rw [if_neg (show ¬ (b = [51] ∧ mvOK (bsOf a) 3 = true) from fun e => b3 e.1)]
      by_cases hv : mvOK (bsOf a) n = true
      · rw [if_pos hv, if_neg (fun ht => by
          rcases key hv ht with ⟨e, _⟩ | ⟨e, _⟩
          · exact b2 e
          · exact b3 e)]
      · rw [if_neg hv]
theorem Ev.uniq {α : Type} {g : Nat → Option α} {a b : α} (ha : Ev g a) (hb : Ev g b) : a = b := by
  obtain ⟨K, hK⟩ := ha
  obtain ⟨L, hL⟩ := hb
  have h1 := hK (K + L) (by omega)
  have h2 := hL (K + L) (by omega)
  rw [h1] at h2
  exact Option.some.inj h2
theorem spec_read_from (s : ByteArray) (hs : s.size ≤ 1048576) : ∀ (d i : Nat) (n : Int), s.size - i = d → i ≤ s.size → ∃ v, Ev (fun k => spec_l1Read.l0 k s n (i : Int)) v := by
  intro d
  induction d with
  | zero =>
    intro i n hd hi
    exact ⟨n, Ev.step (f := fun _ => some n) (fun k => by simp only [spec_l1Read.l0]; rw [if_neg (by omega)]) (Ev.now _)⟩
  | succ d ih =>
    intro i n hd hi
    have hw : wrap64 ((i : Int) + 1) = ((i + 1 : Nat) : Int) := by rw [sw64 (by omega) (by omega)]; omega
    by_cases c1 : bt s (i : Int) < 48
    · exact ⟨-1, Ev.step (f := fun _ => some (-1)) (fun k => by simp only [spec_l1Read.l0]; rw [if_pos (by omega), if_pos (by omega), if_pos (by omega), if_pos c1]) (Ev.now _)⟩
    · by_cases c2 : bt s (i : Int) > 57
      · exact ⟨-1, Ev.step (f := fun _ => some (-1)) (fun k => by simp only [spec_l1Read.l0]; rw [if_pos (by omega), if_pos (by omega), if_pos (by omega), if_neg c1, if_pos (by omega), if_pos (by omega), if_pos c2]) (Ev.now _)⟩
      · obtain ⟨v, hv⟩ := ih (i + 1) (wrap64 ((wrap64 (10 * n)) + (wrap64 (((bt s (i : Int)) - 48) % 256)))) (by omega) (by omega)
        exact ⟨v, Ev.step (fun k => by simp only [spec_l1Read.l0]; rw [if_pos (by omega), if_pos (by omega), if_pos (by omega), if_neg c1, if_pos (by omega), if_pos (by omega), if_neg c2, if_pos (by omega), if_pos (by omega), hw]) hv⟩
theorem spec_read_j0 (s : ByteArray) (hs : s.size ≤ 1048576) (b : Bool) : ∃ v, Ev (fun k => spec_l1Read.j0 k s b) v := by
  cases b
  · obtain ⟨v, hv⟩ := spec_read_from s hs _ 0 0 rfl (Nat.zero_le _)
    exact ⟨v, Ev.step (fun k => by simp only [spec_l1Read.j0]; rw [if_neg (by decide)]; rfl) hv⟩
  · exact ⟨-1, Ev.step (f := fun _ => some (-1)) (fun k => by simp only [spec_l1Read.j0]; rw [if_pos trivial]) (Ev.now _)⟩
theorem spec_read_ev (s : ByteArray) (hs : s.size ≤ 1048576) : ∃ v, Ev (fun k => spec_l1Read.f k s) v := by
  unfold spec_l1Read.f
  have hin : spec_l1In.f (s.size : Int) 1 6 = some (decide (1 ≤ (s.size : Int) ∧ (s.size : Int) ≤ 6)) := by
    unfold spec_l1In.f
    by_cases h : (s.size : Int) ≥ 1
    · rw [if_pos h]; simp [h]
    · rw [if_neg h]; simp; omega
  by_cases h : 1 ≤ (s.size : Int) ∧ (s.size : Int) ≤ 6
  · obtain ⟨v1, h1⟩ := spec_read_j0 s hs (decide ((s.size : Int) > 1))
    obtain ⟨v2, h2⟩ := spec_read_j0 s hs false
    by_cases c : bt s 0 = 48
    · exact ⟨v1, Ev.congr (fun k => by rw [hin, decide_eq_true h, Option.bind_some, if_pos rfl, if_pos (by omega), if_pos c]) h1⟩
    · exact ⟨v2, Ev.congr (fun k => by rw [hin, decide_eq_true h, Option.bind_some, if_pos rfl, if_pos (by omega), if_neg c]) h2⟩
  · obtain ⟨v, hv⟩ := spec_read_j0 s hs true
    exact ⟨v, Ev.congr (fun k => by rw [hin, decide_eq_false h, Option.bind_some, if_neg (by decide)]) hv⟩
theorem read2 : spec_l1Read.f 6 (bsOf [50]) = some 2 := by decide +kernel
theorem read3 : spec_l1Read.f 6 (bsOf [51]) = some 3 := by decide +kernel
theorem spec_mv_j1 {u s : ByteArray} {n : Int} (w : List ByteArray) (hw : w.length ≤ 2) (hs : s.size ≤ 1048576) : Ev (fun k => spec_mvParse.j1 k u w s n) (endV u s n) := by
  unfold endV
  refine Ev.step (fun k => by simp only [spec_mvParse.j1]; rw [if_neg (by omega)]) (f := fun k => (spec_mvGood.f k s n).bind fun t => if t = true then ((spec_mvText.f k s n).bind fun t => if t.toList = u.toList then some (s, n, true) else some ((⟨#[]⟩ : ByteArray), 0, false)) else some ((⟨#[]⟩ : ByteArray), 0, false)) ?_
  refine Ev.bind (spec_mvGood_ev s n (by omega)) ?_
  by_cases h : mvOK s n = true
  · rw [if_pos h]
    simp only [if_pos h]
    refine (Ev.bind (spec_mv_txt s n (mvOK_txt h).1 (mvOK_txt h).2) ?_)
    by_cases e : (mvTxt s n).toList = u.toList
    · simp only [if_pos e]; exact Ev.now _
    · simp only [if_neg e]; exact Ev.now _
  · rw [if_neg h]; exact Ev.congr (f := fun _ => some (⟨#[]⟩, 0, false)) (fun k => if_neg h) (Ev.now _)
theorem spec_mv_many {u s : ByteArray} {n : Int} (w : List ByteArray) (hw : 2 < w.length) : Ev (fun k => spec_mvParse.j0 k u w s n) (⟨#[]⟩, 0, false) := by
  refine Ev.step (f := fun k => spec_mvParse.j1 k u w s n) (fun k => by simp only [spec_mvParse.j0]; rw [if_neg (by omega)]) ?_
  exact Ev.step (f := fun _ => some (⟨#[]⟩, 0, false)) (fun k => by simp only [spec_mvParse.j1]; rw [if_pos (by omega)]) (Ev.now _)
theorem spec_mvParse_ev (u : ByteArray) (hu : u.size ≤ 1048576) : Ev (fun k => spec_mvParse.f k u) (psV u) := by
  unfold spec_mvParse.f
  have hsp := spec_split_ev u 42 hu
  have hl := bs_len u
  rcases first_at 42 u.data.toList with h | ⟨a, b, h, ha⟩
  · have e : splV u 42 = [u] := by unfold splV; rw [spl_no h]; simp [bsOf_self]
    rw [e] at hsp
    refine Ev.bind hsp ?_
    rw [← end_no h]
    refine Ev.congr (fun k => if_pos (by simp)) ?_
    by_cases c : u.toList = [45]
    · rw [if_pos c]
      refine Ev.congr (fun k => if_pos c) ?_
      refine Ev.step (f := fun k => spec_mvParse.j1 k u [u] ⟨#[]⟩ 1) (fun k => by simp only [spec_mvParse.j0]; rw [if_neg (by simp)]) (spec_mv_j1 [u] (by simp) (by decide))
    · rw [if_neg c]
      refine Ev.congr (fun k => if_neg c) ?_
      exact Ev.step (f := fun k => spec_mvParse.j1 k u [u] u 1) (fun k => by simp only [spec_mvParse.j0]; rw [if_neg (by simp)]; rfl) (spec_mv_j1 [u] (by simp) hu)
  · have e : splV u 42 = bsOf a :: (spl 42 [] b).map bsOf := by unfold splV; rw [h, spl_at ha]; simp
    have hlen := spl_len (c := 42) (l := b) (cur := [])
    have hab : a.length + b.length + 1 = u.size := by rw [← hl, h]; simp; omega
    have sa : (bsOf a).size ≤ 1048576 := by rw [← bs_len, bsOf_list]; omega
    have sb : (bsOf b).size ≤ 1048576 := by rw [← bs_len, bsOf_list]; omega
    have hc : ¬ u.toList = [45] := fun e2 => by
      rw [← bs_list, h] at e2
      have : (42 : UInt8) ∈ [(45 : UInt8)] := by rw [← e2]; simp
      exact absurd this (by decide)
    refine Ev.bind hsp ?_
    rw [e]
    refine Ev.congr (fun k => by rw [if_pos (by simp), if_neg hc]; rfl) (f := fun k => spec_mvParse.j0 k u (bsOf a :: (spl 42 [] b).map bsOf) (bsOf a) 1) ?_
    by_cases hb : (42 : UInt8) ∈ b
    · have h2 : psV u = (⟨#[]⟩, 0, false) := by
        unfold psV
        rw [if_pos (by rw [h]; simp), ct_at h ha]
        simp only [show (bsOf b).toList = b by rw [← bs_list, bsOf_list]]
        rw [if_neg (fun e2 => by rw [e2.1] at hb; exact absurd hb (by decide)), if_neg (fun e2 => by rw [e2.1] at hb; exact absurd hb (by decide))]
      rw [h2]
      have hcnt : 0 < b.count 42 := List.count_pos_iff.mpr hb
      exact spec_mv_many _ (by simp; omega)
    · rw [spl_no hb]
      obtain ⟨v, hv⟩ := spec_read_ev (bsOf b) sb
      rw [← end_star h ha v (fun e2 => by subst e2; exact Ev.uniq hv (Ev.of (fun k => spec_l1Read.mono _ _) read2)) (fun e2 => by subst e2; exact Ev.uniq hv (Ev.of (fun k => spec_l1Read.mono _ _) read3))]
      refine Ev.step (f := fun k => (spec_l1Read.f k (bsOf b)).bind fun t => spec_mvParse.j1 k u [bsOf a, bsOf b] (bsOf a) t) (fun k => by simp only [spec_mvParse.j0]; rw [if_pos (by rfl), if_pos (by simp)]; rfl) ?_
      exact Ev.bind hv (spec_mv_j1 _ (by simp) sa)
theorem ct_f (u : ByteArray) (hu : u.size ≤ 1048576) : strings_Cut.f u (⟨#[42]⟩ : ByteArray) = some (ctV u 42) := by
  have hi : stringslite_Index.f u (⟨#[42]⟩ : ByteArray) = some (Lib.indexByte u.data.toList 42) := by
    unfold stringslite_Index.f
    rw [if_pos (by rfl)]
    rfl
  have hl := bs_len u
  unfold strings_Cut.f stringslite_Cut.f ctV
  rw [hi, Option.bind_some]
  rcases first_at 42 u.data.toList with h | ⟨a, b, h, ha⟩
  · rw [idx_no h, if_neg (by decide), if_pos (by decide)]
    rfl
  · have hab : a.length + b.length + 1 = u.size := by rw [← hl, h]; simp; omega
    have h1 : ((⟨#[42]⟩ : ByteArray).size : Int) = 1 := rfl
    rw [h, idx_at ha, h1, sw64 (by omega) (by omega), if_pos (by omega), if_pos (by omega), if_pos (by omega), if_pos (by omega), if_pos (by omega), if_neg (by omega)]
    rfl
theorem itoa1 : Lib.itoa 1 = [49] := by
  unfold Lib.itoa
  rw [if_neg (by decide)]
  exact (by rw [Lib.decDigits, dif_pos (by decide)]; rfl)
theorem itoa2 : Lib.itoa 2 = [50] := by
  unfold Lib.itoa
  rw [if_neg (by decide)]
  exact (by rw [Lib.decDigits, dif_pos (by decide)]; rfl)
theorem itoa3 : Lib.itoa 3 = [51] := by
  unfold Lib.itoa
  rw [if_neg (by decide)]
  exact (by rw [Lib.decDigits, dif_pos (by decide)]; rfl)
theorem atoi2 : Lib.atoiAll [50] = .ok 2 := by rfl
theorem atoi3 : Lib.atoiAll [51] = .ok 3 := by rfl
theorem dec2 : (decV (bsOf [50])).1 = 2 := by
  unfold decV
  rw [bsOf_list, atoi2]
  simp only []
  rw [itoa2, if_pos rfl]
theorem dec3 : (decV (bsOf [51])).1 = 3 := by
  unfold decV
  rw [bsOf_list, atoi3]
  simp only []
  rw [itoa3, if_pos rfl]
theorem impl_mv_j1 {u s : ByteArray} {n : Int} (hs : s.size ≤ 1048576) : Ev (fun k => impl_ParseMove.j1 k u s n) (endV u s n) := by
  unfold endV
  refine Ev.step (fun k => by simp only [impl_ParseMove.j1]) (f := fun k => (impl_IsMove.f k s n).bind fun t => if t = true then ((impl_Move_text.f s n).bind fun t => if t.toList = u.toList then some (s, n, true) else some ((⟨#[]⟩ : ByteArray), 0, false)) else some ((⟨#[]⟩ : ByteArray), 0, false)) ?_
  refine Ev.bind (impl_IsMove_ev s n (by omega)) ?_
  by_cases h : mvOK s n = true
  · simp only [if_pos h]
    refine Ev.congr (fun k => by rw [impl_mv_txt s n (mvOK_txt h).1 (mvOK_txt h).2, Option.bind_some]) (f := fun _ => if (mvTxt s n).toList = u.toList then some (s, n, true) else some (⟨#[]⟩, 0, false)) ?_
    by_cases e : (mvTxt s n).toList = u.toList
    · simp only [if_pos e]; exact Ev.now _
    · simp only [if_neg e]; exact Ev.now _
  · simp only [if_neg h]; exact Ev.now _
theorem impl_ParseMove_ev (u : ByteArray) (hu : u.size ≤ 1048576) : Ev (fun k => impl_ParseMove.f k u) (psV u) := by
  unfold impl_ParseMove.f
  have hl := bs_len u
  simp only [ct_f u hu, Option.bind_some]
  rcases first_at 42 u.data.toList with h | ⟨a, b, h, ha⟩
  · rw [ct_no h, ← end_no h]
    refine Ev.congr (fun k => by rw [if_neg (by simp)]) (f := fun k => impl_ParseMove.j0 k u u 1) ?_
    by_cases c : u.toList = [45]
    · rw [if_pos c]
      exact Ev.step (f := fun k => impl_ParseMove.j1 k u ⟨#[]⟩ 1) (fun k => by simp only [impl_ParseMove.j0]; rw [if_pos c]) (impl_mv_j1 (by decide))
    · rw [if_neg c]
      exact Ev.step (f := fun k => impl_ParseMove.j1 k u u 1) (fun k => by simp only [impl_ParseMove.j0]; rw [if_neg c]) (impl_mv_j1 hu)
  · have hab : a.length + b.length + 1 = u.size := by rw [← hl, h]; simp; omega
    have sa : (bsOf a).size ≤ 1048576 := by rw [← bs_len, bsOf_list]; omega
    have sb : (bsOf b).size ≤ 1048576 := by rw [← bs_len, bsOf_list]; omega
    have hc : ¬ u.toList = [45] := fun e2 => by
      rw [← bs_list, h] at e2
      have : (42 : UInt8) ∈ [(45 : UInt8)] := by rw [← e2]; simp
      exact absurd this (by decide)
    rw [ct_at h ha, ← end_star h ha (decV (bsOf b)).1 (fun e2 => by subst e2; exact dec2) (fun e2 => by subst e2; exact dec3)]
    have hd : impl_decimal.f (bsOf b) = some (decV (bsOf b)) := by
      unfold impl_decimal.f
      rw [if_pos (by omega)]
    refine Ev.congr (fun k => by rw [if_pos rfl, hd, Option.bind_some]) (f := fun k => impl_ParseMove.j0 k u (bsOf a) (decV (bsOf b)).1) ?_
    exact Ev.step (f := fun k => impl_ParseMove.j1 k u (bsOf a) (decV (bsOf b)).1) (fun k => by simp only [impl_ParseMove.j0]; rw [if_neg hc]) (impl_mv_j1 sa)
/-- The text of a movement leads back to it. -/
theorem ps_back {s : ByteArray} {n : Int} (h : mvOK s n = true) : psV (mvTxt s n) = (s, n, true) := by
  obtain ⟨h6, h1, h3, h0⟩ := mvOK_parts h
  have h42 := mvOK_42 h
  have h45 := mvOK_45 h
  by_cases e : s.toList = []
  · obtain rfl := h0 e
    have es : s = ⟨#[]⟩ := bs_toList_inj (by rw [e]; decide +kernel)
    subst es
    decide +kernel
  · by_cases g : n > 1
    · have ht : mvTxt s n = s ++ (⟨#[42]⟩ : ByteArray) ++ itT n := by unfold mvTxt; rw [if_neg e, if_pos g]
      have hd : (mvTxt s n).data.toList = s.data.toList ++ 42 :: (itT n).data.toList := by rw [ht]; simp [ByteArray.data_append]
      have hs : bsOf s.data.toList = s := bsOf_self s
      have hn : n = 2 ∨ n = 3 := by omega
      unfold psV
      rw [if_pos (by rw [hd]; simp), ct_at hd h42, hs]
      simp only []
      rcases hn with rfl | rfl
      · rw [if_pos ⟨by rw [← bs_list, bsOf_list, it2], h⟩]
      · rw [if_neg (fun e2 => by rw [← bs_list, bsOf_list, it3] at e2; exact absurd e2.1 (by decide)), if_pos ⟨by rw [← bs_list, bsOf_list, it3], h⟩]
    · have hn : n = 1 := by omega
      subst hn
      have ht : mvTxt s 1 = s := by unfold mvTxt; rw [if_neg e, if_neg (by decide)]
      rw [ht]
      unfold psV
      rw [if_neg h42, if_neg (fun e2 => by rw [← bs_list] at e2; exact h45 (by rw [e2]; simp)), if_pos ⟨h, e⟩]
theorem w64_in {x : Int} (h0 : -9223372036854775808 ≤ x) (h1 : x ≤ 9223372036854775807) : wrap64 x = x := by
  unfold wrap64; omega
def plOf (c : Nat) : Int × Int × Bool := (((c / 6 : Nat) : Int), ((c % 6 / 2 : Nat) : Int) - 1, c % 2 == 1)
def plOk (p : Int × Int × Bool) : Bool := !(p.2.2 && p.1 == 0)
def plTab : List (Int × Int × Bool) := ((List.range 60).map plOf).filter plOk
def plTx (p : Int × Int × Bool) : ByteArray := plNms.getD p.1.toNat ⟨#[]⟩ ++ plSide p.2.1 ++ (if p.2.2 = true then ⟨#[42]⟩ else ⟨#[]⟩)
def plHit (s : ByteArray) (p : Int × Int × Bool) : Bool := decide ((plTx p).toList = s.toList)
def plGot (o : Option (Int × Int × Bool)) : Int × Int × Bool × Bool := match o with
  | some p => (p.1, p.2.1, p.2.2, true)
  | none => (0, 0, false, false)
/-- What both parsers return. -/
def plPs (s : ByteArray) : Int × Int × Bool × Bool := plGot (plTab.find? (plHit s))
theorem plOf_code : ∀ c : Fin 60, impl_PlaceOfCode.f (c.val : Int) = some (if plOk (plOf c.val) = true then ((plOf c.val).1, (plOf c.val).2.1, (plOf c.val).2.2, true) else (0, 0, false, false)) := by
  decide +kernel
theorem plOf_in : ∀ c : Fin 60, 0 ≤ (plOf c.val).1 ∧ (plOf c.val).1 < 10 ∧ -1 ≤ (plOf c.val).2.1 ∧ (plOf c.val).2.1 ≤ 1 := by
  decide +kernel
theorem plTab_in : ∀ p ∈ plTab, 0 ≤ p.1 ∧ p.1 < 10 ∧ -1 ≤ p.2.1 ∧ p.2.1 ≤ 1 ∧ (p.2.2 = true → p.1 ≠ 0) := by
  decide +kernel
theorem impl_parse (s : ByteArray) : ∀ (d c k : Nat), 60 - c = d → c ≤ 60 → d < k →
    impl_ParsePlace.l0 k s (c : Int) = some (plGot ((((List.range' c d).map plOf).filter plOk).find? (plHit s))) := by
  intro d
  induction d with
  | zero =>
    intro c k hd hc hk
    obtain ⟨k, rfl⟩ : ∃ m, k = m + 1 := ⟨k - 1, by omega⟩
    simp only [impl_ParsePlace.l0]
    rw [if_neg (by omega)]
    rfl
  | succ d ih =>
    intro c k hd hc hk
    obtain ⟨k, rfl⟩ : ∃ m, k = m + 1 := ⟨k - 1, by omega⟩
    have hlt : c < 60 := by omega
    simp only [impl_ParsePlace.l0]
    rw [if_pos (by omega), plOf_code ⟨c, hlt⟩]
    have hi := plOf_in ⟨c, hlt⟩
    have e : wrap64 ((c : Int) + 1) = ((c + 1 : Nat) : Int) := by rw [w64_in (by omega) (by omega)]; omega
    rw [e]
    have hn := ih (c + 1) k (by omega) (by omega) (by omega)
    simp only [Option.bind_some, List.range'_succ, List.map_cons, List.filter_cons]
    by_cases hok : plOk (plOf c) = true
    · rw [if_pos hok, if_pos hok]
      simp only [Option.bind_some, if_true]
      have ht : impl_Place_text.f (plOf c).1 (plOf c).2.1 (plOf c).2.2 = some (plTx (plOf c)) := by
        unfold impl_Place_text.f
        rw [if_pos hi]
        rfl
      rw [ht]
      simp only [Option.bind_some, List.find?_cons]
      by_cases hh : (plTx (plOf c)).toList = s.toList
      · rw [if_pos hh, show plHit s (plOf c) = true from decide_eq_true hh]
        rfl
      · rw [if_neg hh, show plHit s (plOf c) = false from decide_eq_false hh]
        exact hn
    · rw [if_neg hok, if_neg hok]
      simp only [Bool.false_eq_true, if_false]
      exact hn
theorem impl_ParsePlace_ev (s : ByteArray) : Ev (fun k => impl_ParsePlace.f k s) (plPs s) := by
  refine Ev.of (fun k => impl_ParsePlace.mono s k) (k := 61) ?_
  have := impl_parse s 60 0 61 (by omega) (by omega) (by omega)
  unfold impl_ParsePlace.f plPs plTab
  rw [List.range_eq_range']
  exact this
theorem spec_all : spec_plAll.f 200 = some (plTab.map fun p => (⟨p.1, p.2.1, p.2.2⟩ : S27)) := by kernel_rfl
theorem spec_parse (s : ByteArray) (L : List (Int × Int × Bool)) (hL : ∀ p ∈ L, (0 ≤ p.1 ∧ p.1 < 10) ∧ (-1 ≤ p.2.1 ∧ p.2.1 ≤ 1)) (hs : L.length ≤ 1000000) : ∀ (d i k : Nat), L.length - i = d → i ≤ L.length → d < k →
    spec_plParse.l0 k s (L.map fun p => (⟨p.1, p.2.1, p.2.2⟩ : S27)) (L.length : Int) (i : Int) = some (plGot ((L.drop i).find? (plHit s))) := by
  intro d
  induction d with
  | zero =>
    intro i k hd hi hk
    obtain ⟨k, rfl⟩ : ∃ m, k = m + 1 := ⟨k - 1, by omega⟩
    simp only [spec_plParse.l0]
    rw [if_neg (by omega), List.drop_eq_nil_of_le (by omega)]
    rfl
  | succ d ih =>
    intro i k hd hi hk
    obtain ⟨k, rfl⟩ : ∃ m, k = m + 1 := ⟨k - 1, by omega⟩
    have hlt : i < L.length := by omega
    simp only [spec_plParse.l0]
    rw [if_pos (by omega), if_pos (by omega), if_pos (by simp; omega)]
    have e : wrap64 ((i : Int) + 1) = ((i + 1 : Nat) : Int) := by rw [w64_in (by omega) (by omega)]; omega
    have r : rd_T27 (L.map fun p => (⟨p.1, p.2.1, p.2.2⟩ : S27)) (i : Int) = ⟨L[i].1, L[i].2.1, L[i].2.2⟩ := by
      unfold rd_T27
      rw [List.getD_eq_getElem?_getD]
      simp [hlt]
    have hp := hL L[i] (List.getElem_mem hlt)
    have ht : spec_plText.f L[i].1 L[i].2.1 L[i].2.2 = some (plTx L[i]) := (pl_txt L[i].1 L[i].2.1 L[i].2.2 ⟨hp.1.1, by omega⟩ hp.2).1
    rw [r, e]
    simp only []
    rw [ht]
    rw [List.drop_eq_getElem_cons hlt]
    simp only [Option.bind_some, List.find?_cons]
    by_cases hh : (plTx L[i]).toList = s.toList
    · rw [if_pos hh, show plHit s L[i] = true from decide_eq_true hh]
      rfl
    · rw [if_neg hh, show plHit s L[i] = false from decide_eq_false hh]
      exact ih (i + 1) k (by omega) (by omega) (by omega)
theorem spec_plParse_ev (s : ByteArray) : Ev (fun k => spec_plParse.f k s) (plPs s) := by
  refine Ev.of (fun k => spec_plParse.mono s k) (k := 200) ?_
  unfold spec_plParse.f
  rw [spec_all]
  have hlen : plTab.length = 57 := by decide +kernel
  have := spec_parse s plTab (fun p h => by have := plTab_in p h; omega) (by omega) 57 0 200 (by omega) (by omega) (by omega)
  simp only [Option.bind_some, List.length_map]
  exact this
theorem impl_OldPlace_ev (s : ByteArray) (hs : s.size ≤ 9223372036854775807) : Ev (fun k => impl_OldPlace.f k s) (plPs (oldNm s)) := by
  refine Ev.congr (fun k => ?_) (impl_ParsePlace_ev (oldNm s))
  unfold impl_OldPlace.f
  rw [if_pos hs]
def imNames : List ByteArray := [(⟨#[98, 111, 100, 121]⟩ : ByteArray), (⟨#[102, 97, 99, 101]⟩ : ByteArray), (⟨#[98, 114, 111, 119]⟩ : ByteArray), (⟨#[97, 105, 114]⟩ : ByteArray)]
def imVals : List ByteArray := [(⟨#[99, 104, 101, 115, 116, 42]⟩ : ByteArray), (⟨#[109, 111, 117, 116, 104]⟩ : ByteArray), (⟨#[101, 121, 101]⟩ : ByteArray), (⟨#[115, 112, 97, 99, 101]⟩ : ByteArray)]
theorem im_hit (s n v : ByteArray) (i : Nat) (hi : i < 4) (hn : rdOf ByteArray.empty imNames (i : Int) = n) (hv : rdOf ByteArray.empty imVals (i : Int) = v) (h : n.toList = s.toList) :
    Ev (fun k => spec_imPlaces.l0 k s imNames 4 (i : Int)) (plPs v) := by
  refine Ev.step (fun k => ?_) (spec_plParse_ev v)
  simp only [spec_imPlaces.l0]
  rw [if_pos (by omega), if_pos (by omega), if_pos (by show (i : Int) < 4; omega), hn, if_pos h]
  simp only [Option.bind_some]
  rw [if_pos (by omega), if_pos (by show (i : Int) < 4; omega)]
  show (spec_plParse.f k (rdOf ByteArray.empty imVals (i : Int))).bind _ = _
  rw [hv]
  cases spec_plParse.f k v <;> rfl
theorem im_miss (s n : ByteArray) (i : Nat) (hi : i < 4) (hn : rdOf ByteArray.empty imNames (i : Int) = n) (h : ¬ n.toList = s.toList) {r : Int × Int × Bool × Bool}
    (hk : Ev (fun k => spec_imPlaces.l0 k s imNames 4 ((i + 1 : Nat) : Int)) r) : Ev (fun k => spec_imPlaces.l0 k s imNames 4 (i : Int)) r := by
  refine Ev.step (fun k => ?_) hk
  simp only [spec_imPlaces.l0]
  have e : wrap64 ((i : Int) + 1) = ((i + 1 : Nat) : Int) := by rw [w64_in (by omega) (by omega)]; omega
  rw [if_pos (by omega), if_pos (by omega), if_pos (by show (i : Int) < 4; omega), hn, if_neg h, e]
end Go.Proofs.YtcicpmhcmlfhbaaGreatDoor.PA
