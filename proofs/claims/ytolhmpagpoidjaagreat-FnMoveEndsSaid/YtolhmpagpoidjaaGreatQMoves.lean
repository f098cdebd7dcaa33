/- The plain law of desks: what is valid, what edits make, and what all functions of desks return. -/
import Derived.Test.YtolhmpagpoidjaaGreatPAx1
import Derived.Test.YtolhmpagpoidjaaGreatBase
namespace Go.Proofs.YtolhmpagpoidjaaGreat.PA
open Go.RowKit Go.Proofs.YtolhmpagpoidjaaGreatW.PrintWords Go.Proofs.YtolhmpagpoidjaaGreatW.PrintLast Go.Proofs.YtolhmpagpoidjaaGreatW.PrintMore
set_option linter.unusedVariables false
set_option linter.unusedSimpArgs false
theorem w64_i {x : Int} (h0 : -9223372036854775808 ≤ x) (h1 : x ≤ 9223372036854775807) : wrap64 x = x := by
  unfold wrap64; omega
theorem w64_succ {i : Nat} (h : i < 9223372036854775807) : wrap64 ((i : Int) + 1) = ((i + 1 : Nat) : Int) := by
  rw [w64_i (by omega) (by omega)]; omega
/-- The letters of the directions. -/
def dirL : List UInt8 := [117, 100, 108, 114, 102, 98]
def dirIdx (x : Int) : Int := Lib.indexByte dirL x.toNat.toUInt8
theorem spec_idx : ∀ x : Fin 256, spec_mvIndex.f 8 (x.val : Int) = some (dirIdx (x.val : Int)) := by
  decide +kernel
theorem spec_mvIndex_ev (s : ByteArray) (i : Int) : Ev (fun k => spec_mvIndex.f k (bt s i)) (dirIdx (bt s i)) := by
  have h := bt_range s i
  have := spec_idx ⟨(bt s i).toNat, by omega⟩
  simp only [] at this
  rw [show (((bt s i).toNat : Nat) : Int) = bt s i by omega] at this
  exact Ev.of (fun k => spec_mvIndex.mono _ k) this
/-- Are all letters from i on directions? -/
def dirsFrom (s : ByteArray) (i : Nat) : Bool := (List.range' i (s.size - i)).all fun j => decide (0 ≤ dirIdx (bt s (j : Int)))
theorem dirsFrom_end (s : ByteArray) (i : Nat) (h : s.size ≤ i) : dirsFrom s i = true := by
  unfold dirsFrom; rw [show s.size - i = 0 by omega]; rfl
theorem dirsFrom_step (s : ByteArray) (i : Nat) (h : i < s.size) : dirsFrom s i = (decide (0 ≤ dirIdx (bt s (i : Int))) && dirsFrom s (i + 1)) := by
  unfold dirsFrom
  rw [show s.size - i = (s.size - (i + 1)) + 1 by omega, List.range'_succ, List.all_cons]
theorem spec_steps_from (s : ByteArray) (hs : s.size < 9223372036854775807) : ∀ (d i : Nat), s.size - i = d → i ≤ s.size → Ev (fun k => spec_mvSteps.l0 k s (i : Int)) (dirsFrom s i) := by
  intro d
  induction d with
  | zero =>
    intro i hd hi
    refine ⟨1, fun k hk => ?_⟩
    obtain ⟨k, rfl⟩ : ∃ m, k = m + 1 := ⟨k - 1, by omega⟩
    simp only [spec_mvSteps.l0]
    rw [if_neg (by omega), dirsFrom_end s i (by omega)]
  | succ d ih =>
    intro i hd hi
    have hlt : i < s.size := by omega
    refine Ev.step (f := fun k => (spec_mvIndex.f k (bt s (i : Int))).bind fun t => if t < 0 then some false else spec_mvSteps.l0 k s ((i + 1 : Nat) : Int)) (fun k => ?_) ?_
    · simp only [spec_mvSteps.l0]
      rw [if_pos (by omega), if_pos (by omega), if_pos (by omega), w64_succ (by omega)]
    · refine Ev.bind (spec_mvIndex_ev s i) ?_
      rw [dirsFrom_step s i hlt]
      by_cases h : 0 ≤ dirIdx (bt s (i : Int))
      · rw [decide_eq_true h, Bool.true_and]
        exact Ev.congr (fun k => by rw [if_neg (by omega)]) (ih (i + 1) (by omega) (by omega))
      · rw [decide_eq_false h, Bool.false_and]
        exact Ev.congr (f := fun _ => some false) (fun k => by rw [if_pos (by omega)]) (Ev.now _)
theorem impl_steps_from (s : ByteArray) (hs : s.size < 9223372036854775807) : ∀ (d i : Nat), s.size - i = d → i ≤ s.size → Ev (fun k => impl_hasOnly.l0 k s ⟨#[117, 100, 108, 114, 102, 98]⟩ (s.size : Int) (i : Int)) (dirsFrom s i) := by
  intro d
  induction d with
  | zero =>
    intro i hd hi
    refine ⟨1, fun k hk => ?_⟩
    obtain ⟨k, rfl⟩ : ∃ m, k = m + 1 := ⟨k - 1, by omega⟩
    simp only [impl_hasOnly.l0]
    rw [if_neg (by omega), dirsFrom_end s i (by omega)]
  | succ d ih =>
    intro i hd hi
    have hlt : i < s.size := by omega
    refine Ev.step (f := fun k => if dirIdx (bt s (i : Int)) < 0 then some false else impl_hasOnly.l0 k s ⟨#[117, 100, 108, 114, 102, 98]⟩ (s.size : Int) ((i + 1 : Nat) : Int)) (fun k => ?_) ?_
    · simp only [impl_hasOnly.l0]
      rw [if_pos (by omega), if_pos (by omega), if_pos (by omega), w64_succ (by omega)]
      rfl
    · rw [dirsFrom_step s i hlt]
      by_cases h : 0 ≤ dirIdx (bt s (i : Int))
      · rw [decide_eq_true h, Bool.true_and]
        exact Ev.congr (fun k => by rw [if_neg (by omega)]) (ih (i + 1) (by omega) (by omega))
      · rw [decide_eq_false h, Bool.false_and]
        exact Ev.congr (f := fun _ => some false) (fun k => by rw [if_pos (by omega)]) (Ev.now _)
/-- A valid movement. -/
def mvOK (s : ByteArray) (n : Int) : Bool := decide (s.size ≤ 6) && (dirsFrom s 0 && (decide (1 ≤ n ∧ n ≤ 3) && (decide (¬ s.toList = []) || n == 1)))
theorem mvOK_ends {g : Nat → Option Bool} {s : ByteArray} {n : Int} (h : Ev g (dirsFrom s 0)) (w : Int → Int → Int → Option Bool) (hw : ∀ x, w x 1 3 = some (decide (1 ≤ x ∧ x ≤ 3))) :
    Ev (fun k => if (s.size : Int) ≤ 6 then ((g k).bind fun t178 => (if t178 = true then ((w n 1 3).bind fun t179 => (if t179 = true then (if s.toList = ([] : List UInt8) then (some (n == 1)) else (some true)) else (some false))) else (some false))) else (some false)) (mvOK s n) := by
  unfold mvOK
  by_cases h6 : s.size ≤ 6
  · rw [decide_eq_true h6, Bool.true_and]
    refine Ev.congr (fun k => if_pos (by omega)) (Ev.bind h ?_)
    cases dirsFrom s 0
    · exact Ev.now _
    · rw [hw]
      by_cases h13 : 1 ≤ n ∧ n ≤ 3
      · rw [decide_eq_true h13]
        by_cases he : s.toList = []
        · simp only [he, if_true, Option.bind_some, Bool.true_and, not_true_eq_false, decide_false, Bool.false_or]; exact Ev.now _
        · simp only [he, if_true, if_false, Option.bind_some, Bool.true_and, not_false_eq_true, decide_true, Bool.true_or]; exact Ev.now _
      · rw [decide_eq_false h13]
        exact Ev.now _
  · rw [decide_eq_false h6, Bool.false_and]
    exact Ev.congr (f := fun _ => some false) (fun k => if_neg (by omega)) (Ev.now _)
theorem l1In13 (x : Int) : spec_l1In.f x 1 3 = some (decide (1 ≤ x ∧ x ≤ 3)) := by
  unfold spec_l1In.f
  by_cases h : x ≥ 1
  · rw [if_pos h]; simp [h]
  · rw [if_neg h]; simp; omega
theorem within13 (x : Int) : impl_within.f x 1 3 = some (decide (1 ≤ x ∧ x ≤ 3)) := by
  unfold impl_within.f
  by_cases h : x ≥ 1
  · rw [if_pos h]; simp [h]
  · rw [if_neg h]; simp; omega
theorem spec_mvGood_ev (s : ByteArray) (n : Int) (hs : s.size < 9223372036854775807) : Ev (fun k => spec_mvGood.f k s n) (mvOK s n) :=
  mvOK_ends (spec_steps_from s hs (s.size - 0) 0 rfl (by omega)) spec_l1In.f l1In13
theorem impl_IsMove_ev (s : ByteArray) (n : Int) (hs : s.size < 9223372036854775807) : Ev (fun k => impl_IsMove.f k s n) (mvOK s n) :=
  mvOK_ends (impl_steps_from s hs (s.size - 0) 0 rfl (by omega)) impl_within.f within13
theorem mvOK_parts {s : ByteArray} {n : Int} (h : mvOK s n = true) : s.size ≤ 6 ∧ 1 ≤ n ∧ n ≤ 3 ∧ (s.toList = [] → n = 1) := by
  unfold mvOK at h
  simp only [Bool.and_eq_true, decide_eq_true_eq, Bool.or_eq_true, beq_iff_eq] at h
  obtain ⟨h1, _, h2, h3⟩ := h
  refine ⟨h1, h2.1, h2.2, fun he => ?_⟩
  rcases h3 with h3 | h3
  · exact absurd he h3
  · exact h3
/-- A text c times. -/
def rep (s : ByteArray) (c : Nat) : ByteArray := ⟨(Lib.repeatL s.data.toList c).toArray⟩
theorem rep_list (s : ByteArray) (c : Nat) : (rep s c).data.toList = Lib.repeatL s.data.toList c := by simp [rep]
theorem rep_size (s : ByteArray) (c : Nat) : (rep s c).size = c * s.size := by
  show (Lib.repeatL s.data.toList c).toArray.size = _
  rw [List.size_toArray, Lib.repeatL_length]; rfl
theorem repeatL_snoc (l : List UInt8) : ∀ c, Lib.repeatL l c ++ l = l ++ Lib.repeatL l c
  | 0 => by simp [Lib.repeatL]
  | c + 1 => by simp only [Lib.repeatL, List.append_assoc]; rw [repeatL_snoc l c]
theorem bs_ext {a b : ByteArray} (h : a.data.toList = b.data.toList) : a = b := by
  obtain ⟨⟨a⟩⟩ := a; obtain ⟨⟨b⟩⟩ := b; simp at h; rw [h]
theorem spec_times_from (s : ByteArray) : ∀ (c : Nat) (o : ByteArray), c < 9223372036854775807 → o.size + c * s.size ≤ 9223372036854775807 → Ev (fun k => spec_mvTimes.l0 k s (c : Int) o) (o ++ rep s c)
  | 0, o, hc, h => by
    refine ⟨1, fun k hk => ?_⟩
    obtain ⟨k, rfl⟩ : ∃ m, k = m + 1 := ⟨k - 1, by omega⟩
    simp only [spec_mvTimes.l0]
    rw [if_neg (by omega), show rep s 0 = ⟨#[]⟩ from rfl, bs_app_nil]
  | c + 1, o, hc, h => by
    have hm : (c + 1) * s.size = c * s.size + s.size := Nat.succ_mul _ _
    have hz := spec_times_from s c (o ++ s) (by omega) (by rw [ByteArray.size_append]; omega)
    have e : o ++ s ++ rep s c = o ++ rep s (c + 1) := by
      refine bs_ext ?_
      simp only [ByteArray.data_append, Array.toList_append, rep_list, Lib.repeatL, List.append_assoc]
    rw [e] at hz
    refine Ev.step (fun k => ?_) hz
    simp only [spec_mvTimes.l0]
    rw [if_pos (by omega), if_pos (by omega), w64_i (by omega) (by omega), show ((c + 1 : Nat) : Int) - 1 = (c : Int) by omega]
theorem spec_mvTimes_ev (s : ByteArray) (c : Nat) (hc : c < 9223372036854775807) (h : c * s.size ≤ 9223372036854775807) : Ev (fun k => spec_mvTimes.f k s (c : Int)) (rep s c) := by
  have := spec_times_from s c ⟨#[]⟩ hc (by show 0 + c * s.size ≤ _; omega)
  have e : (⟨#[]⟩ : ByteArray) ++ rep s c = rep s c := by
    refine bs_ext ?_
    simp [ByteArray.data_append]
  rwa [e] at this
theorem impl_rep (s : ByteArray) (c : Nat) (hc : c ≤ 9223372036854775807) (h : s.size * c ≤ 140737488355328) : strings_Repeat.f s (c : Int) = some (rep s c) := by
  unfold strings_Repeat.f
  rw [if_pos ⟨by omega, by omega, by simpa using h⟩]
  rfl
/-- All steps of a movement. -/
def mvSt (s : ByteArray) (n : Int) : ByteArray := rep s n.toNat
theorem spec_mvAll_ev {s : ByteArray} {n : Int} (h : mvOK s n = true) : Ev (fun k => spec_mvAll.f k s n) (mvSt s n) := by
  obtain ⟨h1, h2, h3, _⟩ := mvOK_parts h
  have hn : n = (n.toNat : Int) := by omega
  have hm : n.toNat * s.size ≤ 3 * 6 := Nat.mul_le_mul (by omega) h1
  have := spec_mvTimes_ev s n.toNat (by omega) (by omega)
  rw [← hn] at this
  unfold mvSt
  refine Ev.congr (fun k => ?_) this
  unfold spec_mvAll.f
  cases spec_mvTimes.f k s n <;> rfl
theorem impl_all {s : ByteArray} {n : Int} (h : mvOK s n = true) : impl_Move_all.f s n = some (mvSt s n) := by
  obtain ⟨h1, h2, h3, _⟩ := mvOK_parts h
  have hn : n = (n.toNat : Int) := by omega
  have hm : s.size * n.toNat ≤ 6 * 3 := Nat.mul_le_mul h1 (by omega)
  have := impl_rep s n.toNat (by omega) (by omega)
  rw [← hn] at this
  unfold impl_Move_all.f
  rw [this]
  rfl
theorem mvSt_size {s : ByteArray} {n : Int} (h : mvOK s n = true) : (mvSt s n).size ≤ 18 := by
  obtain ⟨h1, h2, h3, _⟩ := mvOK_parts h
  unfold mvSt
  rw [rep_size]
  exact Nat.le_trans (Nat.mul_le_mul (show n.toNat ≤ 3 by omega) h1) (by omega)
def asV (s : ByteArray) (n : Int) : ByteArray × Bool := if mvOK s n = true then (mvSt s n, true) else (⟨#[]⟩, false)
theorem spec_AllSteps_ev (s : ByteArray) (n : Int) (hs : s.size ≤ 1048576) : Ev (fun k => spec_AllSteps.f k s n) (asV s n) := by
  unfold spec_AllSteps.f asV
  refine Ev.bind (spec_mvGood_ev s n (by omega)) ?_
  by_cases h : mvOK s n = true
  · simp only [h, if_true]
    exact Ev.bind (spec_mvAll_ev h) (Ev.now _)
  · simp only [h, if_false]
    exact Ev.now _
theorem impl_AllSteps_ev (s : ByteArray) (n : Int) (hs : s.size ≤ 1048576) : Ev (fun k => impl_AllSteps.f k s n) (asV s n) := by
  unfold impl_AllSteps.f asV
  refine Ev.bind (impl_IsMove_ev s n (by omega)) ?_
  by_cases h : mvOK s n = true
  · simp only [h, if_true, impl_all h]
    exact Ev.now _
  · simp only [h, if_false]
    exact Ev.now _
def smV (s : ByteArray) (n : Int) (t : ByteArray) (m : Int) : Bool × Bool := if mvOK s n = true ∧ mvOK t m = true then ((mvSt s n).toList == (mvSt t m).toList, true) else (false, false)
theorem Ev.shift {α : Type} {g : Nat → Option α} {r : α} (h : Ev (fun k => g (k + 1)) r) : Ev g r := Ev.step (fun _ => rfl) h
/-- The first r-th part of a text. -/
def moCut (s : ByteArray) (r : Nat) : ByteArray := s.extract 0 (s.size / r)
def moRep (s : ByteArray) (r : Nat) : ByteArray := ⟨(Lib.repeatL (moCut s r).data.toList r).toArray⟩
/-- Is the text its r-th part r times, and this of at most six letters? -/
def moHit (s : ByteArray) (r : Nat) : Bool := decide ((moCut s r).size ≤ 6) && ((moRep s r).toList == s.toList)
def moV (s : ByteArray) : ByteArray × Int × Bool :=
  if s.toList = [] then (⟨#[]⟩, 1, true) else if moHit s 3 = true then (moCut s 3, 3, true) else if moHit s 2 = true then (moCut s 2, 2, true) else if moHit s 1 = true then (moCut s 1, 1, true) else (⟨#[]⟩, 0, false)
def MoRel (a0 : ByteArray) (x : Nat) : Prop := x ≤ 3 ∧ ∀ r, x < r → r ≤ 3 → moHit a0 r = false
theorem moRel_step {a0 : ByteArray} {x : Nat} (h : MoRel a0 (x + 1)) (hm : moHit a0 (x + 1) = false) : MoRel a0 x := by
  refine ⟨by have := h.1; omega, fun r hr hr3 => ?_⟩
  by_cases e : r = x + 1
  · subst e; exact hm
  · exact h.2 r (by omega) hr3
theorem moCut_size (a0 : ByteArray) (r : Nat) : (moCut a0 r).size = min (a0.size / r) a0.size := by
  unfold moCut; rw [ByteArray.size_extract, Nat.sub_zero]
theorem moCut_one (a0 : ByteArray) : moCut a0 1 = a0 := by
  unfold moCut; rw [Nat.div_one]; exact ByteArray.extract_zero_size
theorem mo_parts (a0 : ByteArray) (r : Nat) (hr : 1 ≤ r ∧ r ≤ 3) (hs : a0.size ≤ 46000000000000) : ∃ tt, tt = moRep a0 r ∧ strings_Repeat.f (a0.extract 0 (a0.size / r)) (r : Int) = some tt ∧ moHit a0 r = (decide ((moCut a0 r).size ≤ 6) && (tt.toList == a0.toList)) := by
  refine ⟨_, rfl, ?_, rfl⟩
  unfold strings_Repeat.f
  have h1 := moCut_size a0 r
  unfold moCut at h1
  have h2 : (a0.extract 0 (a0.size / r)).size * ((r : Nat) : Int).toNat ≤ 140737488355328 := by
    rw [h1, Int.toNat_natCast]
    exact Nat.le_trans (Nat.mul_le_mul (Nat.min_le_right _ _) hr.2) (by omega)
  rw [if_pos ⟨by omega, by omega, h2⟩]
  rfl
theorem moV_hit {a0 : ByteArray} {x : Nat} (hc : ¬ a0.toList = []) (h : MoRel a0 x) (h1 : 1 ≤ x) (hh : moHit a0 x = true) : moV a0 = (moCut a0 x, (x : Int), true) := by
  unfold moV
  rw [if_neg hc]
  have := h.1
  have e : x = 3 ∨ x = 2 ∨ x = 1 := by omega
  rcases e with rfl | rfl | rfl
  · rw [if_pos hh]; rfl
  · rw [if_neg (by rw [h.2 3 (by omega) (by omega)]; decide), if_pos hh]; rfl
  · rw [if_neg (by rw [h.2 3 (by omega) (by omega)]; decide), if_neg (by rw [h.2 2 (by omega) (by omega)]; decide), if_pos hh]; rfl
theorem moV_none {a0 : ByteArray} (hc : ¬ a0.toList = []) (h : MoRel a0 0) : moV a0 = (⟨#[]⟩, 0, false) := by
  unfold moV
  rw [if_neg hc, if_neg (by rw [h.2 3 (by omega) (by omega)]; decide), if_neg (by rw [h.2 2 (by omega) (by omega)]; decide), if_neg (by rw [h.2 1 (by omega) (by omega)]; decide)]
/-- Are the first n letters, t times, the text? -/
def PN (s : ByteArray) (n t : Nat) : Prop := (rep (s.extract 0 n) t).toList = s.toList
theorem ext_size (s : ByteArray) (n : Nat) (h : n ≤ s.size) : (s.extract 0 n).size = n := by rw [ByteArray.size_extract]; omega
theorem bs_toList_inj {a b : ByteArray} (h : a.toList = b.toList) : a = b := by
  rw [ByteArray.toList_eq, ByteArray.toList_eq] at h
  exact bs_ext h
theorem PN_size {s : ByteArray} {n t : Nat} (h : n ≤ s.size) (hp : PN s n t) : t * n = s.size := by
  have := congrArg ByteArray.size (bs_toList_inj hp)
  rwa [rep_size, ext_size s n h] at this
theorem moRep_eq (s : ByteArray) (r : Nat) : moRep s r = rep (moCut s r) r := rfl
theorem moHit_iff (s : ByteArray) (r : Nat) : moHit s r = true ↔ (s.size / r ≤ 6 ∧ PN s (s.size / r) r) := by
  unfold moHit
  have h1 : (moCut s r).size = s.size / r := by rw [moCut_size]; have := Nat.div_le_self s.size r; omega
  rw [Bool.and_eq_true, decide_eq_true_eq, beq_iff_eq, h1]
  rfl
theorem of_step (s : ByteArray) (hs : s.size ≤ 1000) {n t : Nat} (h1 : 1 ≤ t) (h3 : t ≤ 3) (hn : n ≤ s.size) (hm : ¬ PN s n t) {v : ByteArray × Int × Bool} (h : Ev (fun k => spec_mvOf.l1 k s (n : Int) ((t + 1 : Nat) : Int)) v) : Ev (fun k => spec_mvOf.l1 k s (n : Int) (t : Int)) v := by
  refine Ev.step (f := fun k => (spec_mvTimes.f k (s.extract 0 n) (t : Int)).bind fun z => if z.toList = s.toList then some (s.extract 0 n, (t : Int), true) else spec_mvOf.l1 k s (n : Int) ((t + 1 : Nat) : Int)) (fun k => ?_) ?_
  · simp only [spec_mvOf.l1]
    simp only [if_pos (show (t : Int) ≤ 3 by omega), if_pos (show (0 : Int) ≤ (n : Int) by omega), if_pos (show (n : Int) ≤ (s.size : Int) by omega), w64_succ (show t < 9223372036854775807 by omega)]
    rfl
  · have hsz := ext_size s n hn
    have hle : t * n ≤ 3 * 1000 := Nat.mul_le_mul h3 (by omega)
    refine Ev.bind (spec_mvTimes_ev (s.extract 0 n) t (by omega) (by rw [hsz]; omega)) ?_
    exact Ev.congr (fun k => if_neg hm) h
theorem of_hit (s : ByteArray) (hs : s.size ≤ 1000) {n t : Nat} (h1 : 1 ≤ t) (h3 : t ≤ 3) (hn : n ≤ s.size) (hm : PN s n t) : Ev (fun k => spec_mvOf.l1 k s (n : Int) (t : Int)) (s.extract 0 n, (t : Int), true) := by
  refine Ev.step (f := fun k => (spec_mvTimes.f k (s.extract 0 n) (t : Int)).bind fun z => if z.toList = s.toList then some (s.extract 0 n, (t : Int), true) else spec_mvOf.l1 k s (n : Int) ((t + 1 : Nat) : Int)) (fun k => ?_) ?_
  · simp only [spec_mvOf.l1]
    simp only [if_pos (show (t : Int) ≤ 3 by omega), if_pos (show (0 : Int) ≤ (n : Int) by omega), if_pos (show (n : Int) ≤ (s.size : Int) by omega), w64_succ (show t < 9223372036854775807 by omega)]
    rfl
  · have hsz := ext_size s n hn
    have hle : t * n ≤ 3 * 1000 := Nat.mul_le_mul h3 (by omega)
    refine Ev.bind (spec_mvTimes_ev (s.extract 0 n) t (by omega) (by rw [hsz]; omega)) ?_
    exact Ev.congr (fun k => if_pos hm) (Ev.now _)
theorem of_next (s : ByteArray) (hs : s.size ≤ 1000) {n : Nat} (hn : n ≤ 1000) {v : ByteArray × Int × Bool} (h : Ev (fun k => spec_mvOf.l0 k s ((n + 1 : Nat) : Int)) v) : Ev (fun k => spec_mvOf.l1 k s (n : Int) 4) v := by
  refine Ev.step (fun k => ?_) h
  simp only [spec_mvOf.l1]
  rw [if_neg (by omega), w64_succ (by omega)]
theorem of_enter (s : ByteArray) (hs : s.size ≤ 1000) {n : Nat} (h6 : n ≤ 6) (hn : n ≤ s.size) {v : ByteArray × Int × Bool} (h : Ev (fun k => spec_mvOf.l1 k s (n : Int) 1) v) : Ev (fun k => spec_mvOf.l0 k s (n : Int)) v := by
  refine Ev.step (f := fun k => spec_mvOf.j1 k s (n : Int) true) (fun k => ?_) ?_
  · simp only [spec_mvOf.l0]
    rw [if_pos (by omega), decide_eq_true (show (n : Int) ≤ (s.size : Int) by omega)]
  · refine Ev.step (fun k => ?_) h
    simp only [spec_mvOf.j1, if_true]
theorem of_leave (s : ByteArray) (hs : s.size ≤ 1000) {n : Nat} (h6 : ¬ (n ≤ 6 ∧ n ≤ s.size)) : Ev (fun k => spec_mvOf.l0 k s (n : Int)) (⟨#[]⟩, 0, false) := by
  refine Ev.step (f := fun k => spec_mvOf.j1 k s (n : Int) false) (fun k => ?_) ?_
  · simp only [spec_mvOf.l0]
    by_cases h : n ≤ 6
    · rw [if_pos (by omega), decide_eq_false (show ¬ (n : Int) ≤ (s.size : Int) by omega)]
    · rw [if_neg (by omega)]
  · refine Ev.step (f := fun _ => some (⟨#[]⟩, 0, false)) (fun k => ?_) (Ev.now _)
    simp only [spec_mvOf.j1, Bool.false_eq_true, if_false]
theorem of_row (s : ByteArray) (hs : s.size ≤ 1000) {n : Nat} (h6 : n ≤ 6) (hn : n ≤ s.size) (hm : ∀ t, 1 ≤ t → t ≤ 3 → ¬ PN s n t) {v : ByteArray × Int × Bool} (h : Ev (fun k => spec_mvOf.l0 k s ((n + 1 : Nat) : Int)) v) : Ev (fun k => spec_mvOf.l0 k s (n : Int)) v :=
  of_enter s hs h6 hn (of_step s hs (t := 1) (by omega) (by omega) hn (hm 1 (by omega) (by omega)) (of_step s hs (t := 2) (by omega) (by omega) hn (hm 2 (by omega) (by omega)) (of_step s hs (t := 3) (by omega) (by omega) hn (hm 3 (by omega) (by omega)) (of_next s hs (by omega) h))))
theorem of_rows (s : ByteArray) (hs : s.size ≤ 1000) {m : Nat} (h6 : m ≤ 7) (hn : m ≤ s.size + 1) (hm : ∀ n t, 1 ≤ n → n < m → 1 ≤ t → t ≤ 3 → ¬ PN s n t) {v : ByteArray × Int × Bool} (h : Ev (fun k => spec_mvOf.l0 k s (m : Int)) v) : ∀ d n, m - n = d → 1 ≤ n → n ≤ m → Ev (fun k => spec_mvOf.l0 k s (n : Int)) v := by
  intro d
  induction d with
  | zero => intro n hd h1 hle; (obtain rfl : n = m := (by omega)); exact h
  | succ d ih => intro n hd h1 hle; exact of_row s hs (by omega) (by omega) (fun t a b => hm n t h1 (by omega) a b) (ih (n + 1) (by omega) (by omega) (by omega))
theorem spec_mvOf_ev (s : ByteArray) (hs : s.size ≤ 1000) : Ev (fun k => spec_mvOf.f k s) (moV s) := by
  unfold spec_mvOf.f moV
  by_cases he : s.toList = []
  · rw [if_pos he]
    exact Ev.congr (f := fun _ => some _) (fun k => if_pos he) (Ev.now _)
  · rw [if_neg he]
    refine Ev.congr (fun k => if_neg he) ?_
    have hpos : 0 < s.size := by
      rcases Nat.eq_zero_or_pos s.size with h | h
      · exfalso; apply he
        rw [ByteArray.toList_eq]
        have : s.data.toList.length = 0 := by rw [Array.length_toList]; exact h
        exact List.eq_nil_of_length_eq_zero this
      · exact h
    have hh := fun r => moHit_iff s r
    by_cases h3 : moHit s 3 = true
    · rw [if_pos h3]
      obtain ⟨h36, p3⟩ := (hh 3).1 h3
      have z3 := PN_size (Nat.div_le_self _ _) p3
      refine of_rows s hs (m := s.size / 3) (by omega) (by omega) (fun n t a b c d hp => ?_) ?_ (s.size / 3 - 1) 1 rfl (by omega) (by omega)
      · have z := PN_size (by omega) hp
        have : t = 1 ∨ t = 2 ∨ t = 3 := by omega
        rcases this with rfl | rfl | rfl <;> omega
      · refine of_enter s hs h36 (by omega) (of_step s hs (t := 1) (by omega) (by omega) (by omega) (fun hp => ?_) (of_step s hs (t := 2) (by omega) (by omega) (by omega) (fun hp => ?_) (of_hit s hs (t := 3) (by omega) (by omega) (by omega) p3)))
        · have z := PN_size (by omega) hp; omega
        · have z := PN_size (by omega) hp; omega
    · rw [if_neg h3]
      have n3 : ∀ n, 1 ≤ n → n ≤ 6 → n ≤ s.size → ¬ PN s n 3 := fun n a b c hp => h3 ((hh 3).2 (by
        have z := PN_size c hp
        have e : s.size / 3 = n := by omega
        rw [e]; exact ⟨b, hp⟩))
      by_cases h2 : moHit s 2 = true
      · rw [if_pos h2]
        obtain ⟨h26, p2⟩ := (hh 2).1 h2
        have z2 := PN_size (Nat.div_le_self _ _) p2
        refine of_rows s hs (m := s.size / 2) (by omega) (by omega) (fun n t a b c d hp => ?_) ?_ (s.size / 2 - 1) 1 rfl (by omega) (by omega)
        · have z := PN_size (by omega) hp
          have : t = 1 ∨ t = 2 ∨ t = 3 := by omega
          rcases this with rfl | rfl | rfl
          · omega
          · omega
          · exact n3 n a (by omega) (by omega) hp
        · refine of_enter s hs h26 (by omega) (of_step s hs (t := 1) (by omega) (by omega) (by omega) (fun hp => ?_) (of_hit s hs (t := 2) (by omega) (by omega) (by omega) p2))
          have z := PN_size (by omega) hp; omega
      · rw [if_neg h2]
        have n2 : ∀ n, 1 ≤ n → n ≤ 6 → n ≤ s.size → ¬ PN s n 2 := fun n a b c hp => h2 ((hh 2).2 (by
          have z := PN_size c hp
          have e : s.size / 2 = n := by omega
          rw [e]; exact ⟨b, hp⟩))
        by_cases h1 : moHit s 1 = true
        · rw [if_pos h1]
          obtain ⟨h16, p1⟩ := (hh 1).1 h1
          rw [Nat.div_one] at h16 p1
          have e : moCut s 1 = s.extract 0 s.size := by unfold moCut; rw [Nat.div_one]
          rw [e]
          refine of_rows s hs (m := s.size) (by omega) (by omega) (fun n t a b c d hp => ?_) ?_ (s.size - 1) 1 rfl (by omega) (by omega)
          · have z := PN_size (by omega) hp
            have : t = 1 ∨ t = 2 ∨ t = 3 := by omega
            rcases this with rfl | rfl | rfl
            · omega
            · exact n2 n a (by omega) (by omega) hp
            · exact n3 n a (by omega) (by omega) hp
          · exact of_enter s hs h16 (by omega) (of_hit s hs (t := 1) (by omega) (by omega) (by omega) p1)
        · rw [if_neg h1]
          have n1 : ∀ n, 1 ≤ n → n ≤ 6 → n ≤ s.size → ¬ PN s n 1 := fun n a b c hp => h1 ((hh 1).2 (by
            have z := PN_size c hp
            have e : s.size / 1 = n := by omega
            rw [e]; exact ⟨b, hp⟩))
          refine of_rows s hs (m := min 6 s.size + 1) (by omega) (by omega) (fun n t a b c d hp => ?_) (of_leave s hs (by omega)) (min 6 s.size) 1 (by omega) (by omega) (by omega)
          have : t = 1 ∨ t = 2 ∨ t = 3 := by omega
          rcases this with rfl | rfl | rfl
          · exact n1 n a (by omega) (by omega) hp
          · exact n2 n a (by omega) (by omega) hp
          · exact n3 n a (by omega) (by omega) hp
theorem impl_mo_from (a0 : ByteArray) (hs : a0.size ≤ 1000) (hc : ¬ a0.toList = []) : ∀ x : Nat, MoRel a0 x → Ev (fun k => impl_moveOf.l0 k a0 (x : Int)) (moV a0)
  | 0, h => by
    refine Ev.step (f := fun _ => some (moV a0)) (fun k => ?_) (Ev.now _)
    simp only [impl_moveOf.l0]
    rw [if_neg (by omega), moV_none hc h]
  | x + 1, h => by
    have h3 := h.1
    have hd := Nat.div_le_self a0.size (x + 1)
    have hnn : (0 : Int) ≤ ((a0.size / (x + 1) : Nat) : Int) := Int.natCast_nonneg _
    have hle : ((a0.size / (x + 1) : Nat) : Int) ≤ (a0.size : Int) := Int.ofNat_le.mpr hd
    have e : wrap64 (Int.tdiv (a0.size : Int) ((x + 1 : Nat) : Int)) = ((a0.size / (x + 1) : Nat) : Int) := by
      have e1 : Int.tdiv (a0.size : Int) ((x + 1 : Nat) : Int) = ((a0.size / (x + 1) : Nat) : Int) := (Int.ofNat_tdiv _ _).symm
      rw [e1]; exact w64_i (by omega) (by omega)
    have e0 : wrap64 (((x + 1 : Nat) : Int) - 1) = (x : Int) := by rw [w64_i (by omega) (by omega)]; omega
    obtain ⟨tt, e1, e2, e3⟩ := mo_parts a0 (x + 1) ⟨by omega, h3⟩ (by omega)
    cases hh : moHit a0 (x + 1)
    · refine Ev.step (f := fun k => impl_moveOf.l0 k a0 (x : Int)) (fun k => ?_) (impl_mo_from a0 hs hc x (moRel_step h hh))
      simp only [impl_moveOf.l0, e, e0, Int.toNat_natCast, e2, Option.bind_some]
      rw [if_pos (by omega), if_neg (by omega), if_pos hnn, if_pos hle]
      rw [hh] at e3
      by_cases h6 : ((a0.extract 0 (a0.size / (x + 1))).size : Int) ≤ 6
      · rw [if_pos h6]
        refine if_neg (fun hq => ?_)
        have : (moCut a0 (x + 1)).size ≤ 6 := by unfold moCut; omega
        rw [decide_eq_true this, hq, Bool.true_and] at e3
        simp at e3
      · rw [if_neg h6]
    · refine Ev.step (f := fun _ => some (moV a0)) (fun k => ?_) (Ev.now _)
      simp only [impl_moveOf.l0, e, e0, Int.toNat_natCast, e2, Option.bind_some]
      rw [if_pos (by omega), if_neg (by omega), if_pos hnn, if_pos hle]
      rw [hh] at e3
      have e4 := e3.symm
      rw [Bool.and_eq_true, decide_eq_true_eq, beq_iff_eq] at e4
      have h6 : ((a0.extract 0 (a0.size / (x + 1))).size : Int) ≤ 6 := by have := e4.1; unfold moCut at this; omega
      rw [if_pos h6, if_pos e4.2, moV_hit hc h (by omega) hh]
      rfl
theorem impl_moveOf_ev (s : ByteArray) (hs : s.size ≤ 1000) : Ev (fun k => impl_moveOf.f k s) (moV s) := by
  unfold impl_moveOf.f
  by_cases hc : s.toList = ([] : List UInt8)
  · simp only [if_pos hc]
    have : moV s = (⟨#[]⟩, 1, true) := by unfold moV; rw [if_pos hc]
    rw [this]; exact Ev.now _
  · simp only [if_neg hc]
    exact impl_mo_from s hs hc 3 ⟨by omega, fun r h1 h2 => by omega⟩
def nmV (s : ByteArray) (n : Int) : ByteArray × Int × Bool := if mvOK s n = true then ((moV (mvSt s n)).1, (moV (mvSt s n)).2.1, true) else (⟨#[]⟩, 0, false)
end Go.Proofs.YtolhmpagpoidjaaGreat.PA
