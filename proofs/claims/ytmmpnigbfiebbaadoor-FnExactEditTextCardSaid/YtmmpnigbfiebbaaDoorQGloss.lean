/- The plain law of glosses and of edits of a desk: what is valid is the same for the program and the reference. -/
import Derived.Test.YtmmpnigbfiebbaaDoorPAx1
import Derived.Test.YtmmpnigbfiebbaaDoorBase
namespace Go.Proofs.YtmmpnigbfiebbaaDoor.PA
open Go.RowKit Go.Proofs.YtmmpnigbfiebbaaDoorW.PrintWords Go.Proofs.YtmmpnigbfiebbaaDoorW.PrintLast Go.Proofs.YtmmpnigbfiebbaaDoorW.PrintMore
set_option linter.unusedVariables false
set_option linter.unusedSimpArgs false

theorem w64_i {x : Int} (h0 : -9223372036854775808 ≤ x) (h1 : x ≤ 9223372036854775807) : wrap64 x = x := by
  unfold wrap64; omega
theorem w64_succ {i : Nat} (h : i < 9223372036854775807) : wrap64 ((i : Int) + 1) = ((i + 1 : Nat) : Int) := by
  rw [w64_i (by omega) (by omega)]; omega
theorem Ev.shift {α : Type} {g : Nat → Option α} {r : α} (h : Ev (fun k => g (k + 1)) r) : Ev g r := Ev.step (fun _ => rfl) h

/-- The letters of glosses. -/
def glL : List UInt8 := [65, 66, 67, 68, 69, 70, 71, 72, 73, 74, 75, 76, 77, 78, 79, 80, 81, 82, 83, 84, 85, 86, 87, 88, 89, 90]
def glIs (x : Int) : Bool := decide (65 ≤ x ∧ x ≤ 90)
theorem gl_idx : ∀ x : Fin 256, decide (Lib.indexByte glL (x.val : Int).toNat.toUInt8 < 0) = !glIs (x.val : Int) := by
  decide +kernel
theorem gl_at (s : ByteArray) (i : Int) : (Lib.indexByte glL (bt s i).toNat.toUInt8 < 0) ↔ glIs (bt s i) = false := by
  have h := bt_range s i
  have := gl_idx ⟨(bt s i).toNat, by omega⟩
  simp only [] at this
  rw [show (((bt s i).toNat : Nat) : Int) = bt s i by omega] at this
  cases hg : glIs (bt s i)
  · rw [hg] at this; simpa using this
  · rw [hg] at this; simpa using this
/-- Are all letters from i on letters of glosses? -/
def glFrom (s : ByteArray) (i : Nat) : Bool := (List.range' i (s.size - i)).all fun j => glIs (bt s (j : Int))
theorem glFrom_end (s : ByteArray) (i : Nat) (h : s.size ≤ i) : glFrom s i = true := by
  unfold glFrom; rw [show s.size - i = 0 by omega]; rfl
theorem glFrom_step (s : ByteArray) (i : Nat) (h : i < s.size) : glFrom s i = (glIs (bt s (i : Int)) && glFrom s (i + 1)) := by
  unfold glFrom
  rw [show s.size - i = (s.size - (i + 1)) + 1 by omega, List.range'_succ, List.all_cons]
def glOK (s : ByteArray) : Bool := glFrom s 0 && decide (1 ≤ (s.size : Int) ∧ (s.size : Int) ≤ 8)
theorem in_val (a b c : Int) : spec_l1In.f a b c = some (decide (b ≤ a ∧ a ≤ c)) := by
  unfold spec_l1In.f
  by_cases h : b ≤ a
  · rw [if_pos h]; simp [h]
  · rw [if_neg h]; simp [h]
theorem within_val (a b c : Int) : impl_within.f a b c = some (decide (b ≤ a ∧ a ≤ c)) := by
  unfold impl_within.f
  by_cases h : b ≤ a
  · rw [if_pos h]; simp [h]
  · rw [if_neg h]; simp [h]
theorem spec_gl_from (s : ByteArray) (hs : s.size < 9223372036854775807) : ∀ (d i : Nat), s.size - i = d → i ≤ s.size → Ev (fun k => spec_enGloss.l0 k s (i : Int)) (glFrom s i && decide (1 ≤ (s.size : Int) ∧ (s.size : Int) ≤ 8)) := by
  intro d
  induction d with
  | zero =>
    intro i hd hi
    refine ⟨1, fun k hk => ?_⟩
    obtain ⟨k, rfl⟩ : ∃ m, k = m + 1 := ⟨k - 1, by omega⟩
    simp only [spec_enGloss.l0]
    rw [if_neg (by omega), glFrom_end s i (by omega), in_val]
    rfl
  | succ d ih =>
    intro i hd hi
    have hlt : i < s.size := by omega
    refine Ev.step (f := fun k => if bt s (i : Int) < 65 then some false else if bt s (i : Int) > 90 then some false else spec_enGloss.l0 k s ((i + 1 : Nat) : Int)) (fun k => ?_) ?_
    · simp only [spec_enGloss.l0]
      rw [if_pos (by omega), if_pos (by omega), w64_succ (by omega)]
    · rw [glFrom_step s i hlt]
      by_cases h1 : bt s (i : Int) < 65
      · rw [show glIs (bt s (i : Int)) = false by unfold glIs; exact decide_eq_false (by omega)]
        exact Ev.congr (f := fun _ => some false) (fun k => by rw [if_pos h1]) (Ev.now _)
      · by_cases h2 : bt s (i : Int) > 90
        · rw [show glIs (bt s (i : Int)) = false by unfold glIs; exact decide_eq_false (by omega)]
          exact Ev.congr (f := fun _ => some false) (fun k => by rw [if_neg h1, if_pos h2]) (Ev.now _)
        · rw [show glIs (bt s (i : Int)) = true by unfold glIs; exact decide_eq_true (by omega), Bool.true_and]
          exact Ev.congr (fun k => by rw [if_neg h1, if_neg h2]) (ih (i + 1) (by omega) (by omega))
theorem impl_gl_from (s : ByteArray) (hs : s.size < 9223372036854775807) : ∀ (d i : Nat), s.size - i = d → i ≤ s.size → Ev (fun k => impl_hasOnly.l0 k s ⟨#[65, 66, 67, 68, 69, 70, 71, 72, 73, 74, 75, 76, 77, 78, 79, 80, 81, 82, 83, 84, 85, 86, 87, 88, 89, 90]⟩ (s.size : Int) (i : Int)) (glFrom s i) := by
  intro d
  induction d with
  | zero =>
    intro i hd hi
    refine ⟨1, fun k hk => ?_⟩
    obtain ⟨k, rfl⟩ : ∃ m, k = m + 1 := ⟨k - 1, by omega⟩
    simp only [impl_hasOnly.l0]
    rw [if_neg (by omega), glFrom_end s i (by omega)]
  | succ d ih =>
    intro i hd hi
    have hlt : i < s.size := by omega
    refine Ev.step (f := fun k => if Lib.indexByte glL (bt s (i : Int)).toNat.toUInt8 < 0 then some false else impl_hasOnly.l0 k s ⟨#[65, 66, 67, 68, 69, 70, 71, 72, 73, 74, 75, 76, 77, 78, 79, 80, 81, 82, 83, 84, 85, 86, 87, 88, 89, 90]⟩ (s.size : Int) ((i + 1 : Nat) : Int)) (fun k => ?_) ?_
    · simp only [impl_hasOnly.l0]
      rw [if_pos (by omega), if_pos (by omega), if_pos (by omega), w64_succ (by omega)]
      rfl
    · rw [glFrom_step s i hlt]
      cases h : glIs (bt s (i : Int))
      · rw [Bool.false_and]
        exact Ev.congr (f := fun _ => some false) (fun k => by rw [if_pos ((gl_at s _).mpr h)]) (Ev.now _)
      · rw [Bool.true_and]
        have hn : ¬ (Lib.indexByte glL (bt s (i : Int)).toNat.toUInt8 < 0) := fun h' => by
          have := (gl_at s _).mp h'
          rw [h] at this; cases this
        exact Ev.congr (fun k => by rw [if_neg hn]) (ih (i + 1) (by omega) (by omega))
theorem spec_enGloss_ev (s : ByteArray) (hs : s.size < 9223372036854775807) : Ev (fun k => spec_enGloss.f k s) (glOK s) := spec_gl_from s hs _ 0 rfl (Nat.zero_le _)
theorem impl_IsGloss_ev (s : ByteArray) (hs : s.size < 9223372036854775807) : Ev (fun k => impl_IsGloss.f k s) (glOK s) := by
  unfold impl_IsGloss.f impl_isWordOf.f glOK
  simp only [within_val, Option.bind_some]
  by_cases h : 1 ≤ (s.size : Int) ∧ (s.size : Int) ≤ 8
  · simp only [decide_eq_true h, if_true, Bool.and_true]
    exact Ev.bind (Ev.bind (impl_gl_from s hs _ 0 rfl (Nat.zero_le _)) (Ev.now _)) (Ev.now _)
  · simp only [decide_eq_false h, Bool.and_false]
    exact Ev.congr (f := fun _ => some false) (fun k => by simp) (Ev.now _)
/-- A valid edit. -/
def deV (a0 a1 : Int) (a2 a3 : ByteArray) : Bool :=
  if decide (0 ≤ a1 ∧ a1 ≤ 20) = true then (if a0 = 0 then (if glOK a2 = true then a3.toList == [] else false) else if a0 = 1 then (if a2.toList = [] then glOK a3 else false) else if a0 = 2 then (if glOK a2 = true then (if glOK a3 = true then a2.toList != a3.toList else false) else false) else false) else false
theorem de_ev {g : Nat → ByteArray → Option Bool} (a0 a1 : Int) (a2 a3 : ByteArray) (h2 : Ev (fun k => g k a2) (glOK a2)) (h3 : Ev (fun k => g k a3) (glOK a3)) :
    Ev (fun k => (some (decide (0 ≤ a1 ∧ a1 ≤ 20))).bind fun t104 => (if t104 = true then (if a0 = 0 then ((g k a2).bind fun t105 => (if t105 = true then (some (a3.toList == ([] : List UInt8))) else (some false))) else (if a0 = 1 then (if a2.toList = ([] : List UInt8) then ((g k a3).bind fun t106 => (some t106)) else (some false)) else (if a0 = 2 then ((g k a2).bind fun t107 => (if t107 = true then ((g k a3).bind fun t108 => (if t108 = true then (some (a2.toList != a3.toList)) else (some false))) else (some false))) else (some false)))) else (some false))) (deV a0 a1 a2 a3) := by
  unfold deV
  simp only [Option.bind_some]
  by_cases h : decide (0 ≤ a1 ∧ a1 ≤ 20) = true
  · simp only [if_pos h]
    by_cases e0 : a0 = 0
    · simp only [if_pos e0]
      refine Ev.bind h2 ?_
      cases glOK a2 <;> exact Ev.now _
    · simp only [if_neg e0]
      by_cases e1 : a0 = 1
      · simp only [if_pos e1]
        by_cases e : a2.toList = []
        · simp only [if_pos e]; exact Ev.bind h3 (Ev.now _)
        · simp only [if_neg e]; exact Ev.now _
      · simp only [if_neg e1]
        by_cases e2 : a0 = 2
        · simp only [if_pos e2]
          refine Ev.bind h2 ?_
          cases glOK a2
          · exact Ev.now _
          · refine Ev.bind h3 ?_
            cases glOK a3 <;> exact Ev.now _
        · simp only [if_neg e2]; exact Ev.now _
  · simp only [if_neg h]; exact Ev.now _
theorem spec_unEdit_ev (a0 a1 : Int) (a2 a3 : ByteArray) (h2 : a2.size < 9223372036854775807) (h3 : a3.size < 9223372036854775807) : Ev (fun k => spec_unEdit.f k a0 a1 a2 a3) (deV a0 a1 a2 a3) := by
  unfold spec_unEdit.f
  simp only [in_val]
  exact de_ev (g := fun k s => spec_enGloss.f k s) a0 a1 a2 a3 (spec_enGloss_ev a2 h2) (spec_enGloss_ev a3 h3)
theorem impl_isDeskEdit_ev (a0 a1 : Int) (a2 a3 : ByteArray) (h2 : a2.size < 9223372036854775807) (h3 : a3.size < 9223372036854775807) : Ev (fun k => impl_isDeskEdit.f k a0 a1 a2 a3) (deV a0 a1 a2 a3) := by
  unfold impl_isDeskEdit.f
  simp only [within_val]
  exact de_ev (g := fun k s => impl_IsGloss.f k s) a0 a1 a2 a3 (impl_IsGloss_ev a2 h2) (impl_IsGloss_ev a3 h3)
theorem deV_kind {a0 a1 : Int} {a2 a3 : ByteArray} (h : deV a0 a1 a2 a3 = true) : a0 = 0 ∨ a0 = 1 ∨ a0 = 2 := by
  unfold deV at h
  by_cases e0 : a0 = 0
  · exact .inl e0
  · by_cases e1 : a0 = 1
    · exact .inr (.inl e1)
    · by_cases e2 : a0 = 2
      · exact .inr (.inr e2)
      · simp [e0, e1, e2] at h
end Go.Proofs.YtmmpnigbfiebbaaDoor.PA
