/- The plain law of valid hands: shapes, orientations, places and movements are valid for the program as for the reference. -/
import Derived.Test.YtadddkdfbmbagaaPAx5
import Derived.Test.YtadddkdfbmbagaaPAx7
import Derived.Test.YtadddkdfbmbagaaPAx6
import Derived.Test.YtadddkdfbmbagaaQMoveSz
namespace Go.Proofs.Ytadddkdfbmbagaa.PA
open Go.RowKit Go.Proofs.YtadddkdfbmbagaaW.PrintWords Go.Proofs.YtadddkdfbmbagaaW.PrintLast Go.Proofs.YtadddkdfbmbagaaW.PrintMore
set_option linter.unusedVariables false
set_option linter.unusedSimpArgs false
theorem in_val (a b c : Int) : spec_l1In.f a b c = some (decide (b ≤ a ∧ a ≤ c)) := by
  unfold spec_l1In.f
  by_cases h : b ≤ a
  · rw [if_pos h]; simp [h]
  · rw [if_neg h]; simp [h]
theorem rd_at (l : List Int) (i : Nat) (h : i < l.length) : rd l (i : Int) = l[i] := by
  unfold rd
  rw [List.getD_eq_getElem?_getD]
  simp [h]
theorem all_from (l : List Int) (a1 a2 : Int) (hl : l.length ≤ 1000) : ∀ (d i : Nat), l.length - i = d → i ≤ l.length → Ev (fun k => spec_l1All.l0 k a1 a2 l (l.length : Int) (i : Int)) (awAll a1 a2 (l.drop i))
  | 0, i, hd, hi => by
    rw [List.drop_eq_nil_of_le (by omega)]
    refine Ev.step (f := fun _ => some true) (fun k => ?_) (Ev.now _)
    simp only [spec_l1All.l0]
    rw [if_neg (by omega)]
  | d + 1, i, hd, hi => by
    have hlt : i < l.length := by omega
    have hw : wrap64 ((i : Int) + 1) = ((i + 1 : Nat) : Int) := w64_succ (by omega)
    rw [List.drop_eq_getElem_cons hlt]
    by_cases h : a1 ≤ l[i] ∧ l[i] ≤ a2
    · have e : awAll a1 a2 (l[i] :: l.drop (i + 1)) = awAll a1 a2 (l.drop (i + 1)) := by simp only [awAll, List.all_cons, decide_eq_true h, Bool.true_and]
      rw [e]
      refine Ev.step (fun k => ?_) (all_from l a1 a2 hl d (i + 1) (by omega) (by omega))
      simp only [spec_l1All.l0, hw, rd_at l i hlt, in_val]
      rw [if_pos (by omega), if_pos (by omega), if_pos (by omega), Option.bind_some, if_pos (decide_eq_true h)]
    · have e : awAll a1 a2 (l[i] :: l.drop (i + 1)) = false := by simp only [awAll, List.all_cons, decide_eq_false h, Bool.false_and]
      rw [e]
      refine Ev.step (f := fun _ => some false) (fun k => ?_) (Ev.now _)
      simp only [spec_l1All.l0, hw, rd_at l i hlt, in_val]
      rw [if_pos (by omega), if_pos (by omega), if_pos (by omega), Option.bind_some, if_neg (by rw [decide_eq_false h]; decide)]
theorem all_ev (l : List Int) (a1 a2 : Int) (hl : l.length ≤ 1000) : Ev (fun k => spec_l1All.f k l a1 a2) (awAll a1 a2 l) := all_from l a1 a2 hl _ 0 rfl (Nat.zero_le _)
/-- May a shape be spread? -/
def wideV (i m r l : Int) : Bool := if m = 0 then (if i = 0 then true else if r = 0 then true else false) else (if r = 0 then l == 0 else false)
theorem impl_spread (t i m r l : Int) (s : Bool) : impl_Shape_maySpread.f t i m r l s = some (wideV i m r l) := by
  unfold impl_Shape_maySpread.f wideV
  split <;> split <;> (try split) <;> rfl
theorem wide_ev (t i m r l : Int) (s : Bool) : Ev (fun k => spec_shWide.f k t i m r l s) (wideV i m r l) := by
  have w0 : wrap64 0 = 0 := w64_i (by decide) (by decide)
  have w1 : wrap64 1 = 1 := w64_i (by decide) (by decide)
  have w2 : wrap64 2 = 2 := w64_i (by decide) (by decide)
  have w3 : wrap64 3 = 3 := w64_i (by decide) (by decide)
  have w4 : wrap64 4 = 4 := w64_i (by decide) (by decide)
  have s4 : Ev (fun k => spec_shWide.l0 k [i, m, r, l] 4) false := Ev.step (f := fun _ => some false) (fun k => by simp [spec_shWide.l0]) (Ev.now _)
  have s3 : Ev (fun k => spec_shWide.l0 k [i, m, r, l] 3) (decide (r = 0 ∧ l = 0)) := by
    by_cases h : r = 0
    · by_cases h' : l = 0
      · exact Ev.step (f := fun _ => some (decide (r = 0 ∧ l = 0))) (fun k => by simp [spec_shWide.l0, rd, w0, w1, w2, w3, w4, h, h']) (Ev.now _)
      · rw [decide_eq_false (fun e => h' e.2)]; exact Ev.step (fun k => by simp [spec_shWide.l0, rd, w0, w1, w2, w3, w4, h, h']) s4
    · rw [decide_eq_false (fun e => h e.1)]; exact Ev.step (fun k => by simp [spec_shWide.l0, rd, w0, w1, w2, w3, w4, h]) s4
  have s2 : Ev (fun k => spec_shWide.l0 k [i, m, r, l] 2) (decide ((m = 0 ∧ r = 0) ∨ (r = 0 ∧ l = 0))) := by
    by_cases h : m = 0 ∧ r = 0
    · rw [decide_eq_true (.inl h)]; exact Ev.step (f := fun _ => some true) (fun k => by simp [spec_shWide.l0, rd, w0, w1, w2, w3, w4, h.1, h.2]) (Ev.now _)
    · have e : decide ((m = 0 ∧ r = 0) ∨ (r = 0 ∧ l = 0)) = decide (r = 0 ∧ l = 0) := by simp [h]
      rw [e]
      refine Ev.step (fun k => ?_) s3
      by_cases h1 : m = 0
      · have h2 : r ≠ 0 := fun e => h ⟨h1, e⟩
        simp [spec_shWide.l0, rd, w0, w1, w2, w3, w4, h1, h2]
      · simp [spec_shWide.l0, rd, w0, w1, w2, w3, w4, h1]
  have s1 : Ev (fun k => spec_shWide.l0 k [i, m, r, l] 1) (decide ((i = 0 ∧ m = 0) ∨ (m = 0 ∧ r = 0) ∨ (r = 0 ∧ l = 0))) := by
    by_cases h : i = 0 ∧ m = 0
    · rw [decide_eq_true (.inl h)]; exact Ev.step (f := fun _ => some true) (fun k => by simp [spec_shWide.l0, rd, w0, w1, w2, w3, w4, h.1, h.2]) (Ev.now _)
    · have e : decide ((i = 0 ∧ m = 0) ∨ (m = 0 ∧ r = 0) ∨ (r = 0 ∧ l = 0)) = decide ((m = 0 ∧ r = 0) ∨ (r = 0 ∧ l = 0)) := by simp [h]
      rw [e]
      refine Ev.step (fun k => ?_) s2
      by_cases h1 : i = 0
      · have h2 : m ≠ 0 := fun e => h ⟨h1, e⟩
        simp [spec_shWide.l0, rd, w0, w1, w2, w3, w4, h1, h2]
      · simp [spec_shWide.l0, rd, w0, w1, w2, w3, w4, h1]
  have e : wideV i m r l = decide ((i = 0 ∧ m = 0) ∨ (m = 0 ∧ r = 0) ∨ (r = 0 ∧ l = 0)) := by
    unfold wideV
    by_cases h1 : m = 0 <;> by_cases h2 : i = 0 <;> by_cases h3 : r = 0 <;> by_cases h4 : l = 0 <;> simp [h1, h2, h3, h4]
  rw [e]
  unfold spec_shWide.f
  simp only [spec_shFingers.f, Option.bind_some]
  exact s1
/-- A valid shape. -/
def shOK (t i m r l : Int) (s : Bool) : Bool := if awAll 0 2 [t, i, m, r, l] = true then (if s = true then wideV i m r l else true) else false
theorem impl_shape (t i m r l : Int) (s : Bool) : impl_IsShape.f t i m r l s = some (shOK t i m r l s) := by
  unfold impl_IsShape.f shOK
  simp only [Option.bind_some, impl_Shape_bends.f, impl_allWithin.f, impl_spread]
  rw [if_pos (by simp), if_pos (by simp), Option.bind_some]
  show (if awAll 0 2 [t, i, m, r, l] = true then _ else _) = _
  split <;> (try split) <;> rfl
theorem spec_shape_ev (t i m r l : Int) (s : Bool) : Ev (fun k => spec_shGood.f k t i m r l s) (shOK t i m r l s) := by
  unfold spec_shGood.f shOK
  simp only [in_val, Option.bind_some, spec_shFingers.f]
  by_cases h : 0 ≤ t ∧ t ≤ 2
  · simp only [decide_eq_true h, if_true]
    refine Ev.bind (all_ev _ _ _ (by simp)) ?_
    have e : awAll 0 2 [t, i, m, r, l] = awAll 0 2 [i, m, r, l] := by unfold awAll; rw [List.all_cons, decide_eq_true h, Bool.true_and]
    rw [e]
    cases awAll 0 2 [i, m, r, l]
    · simp only [Bool.false_eq_true, if_false]; exact Ev.now _
    · simp only [if_true]
      cases s
      · simp only [Bool.false_eq_true, if_false]; exact Ev.now _
      · simp only [if_true]
        exact Ev.bind (wide_ev _ _ _ _ _ _) (Ev.now _)
  · simp only [decide_eq_false h, Bool.false_eq_true, if_false]
    have e : awAll 0 2 [t, i, m, r, l] = false := by simp only [awAll, List.all_cons, decide_eq_false h, Bool.false_and]
    rw [e]
    simp only [Bool.false_eq_true, if_false]
    exact Ev.now _
theorem shOK_in {t i m r l : Int} {s : Bool} (h : shOK t i m r l s = true) : (0 ≤ t ∧ t ≤ 2) ∧ (0 ≤ i ∧ i ≤ 2) ∧ (0 ≤ m ∧ m ≤ 2) ∧ (0 ≤ r ∧ r ≤ 2) ∧ (0 ≤ l ∧ l ≤ 2) := by
  unfold shOK at h
  split at h
  · rename_i h1
    simp only [awAll, List.all_cons, List.all_nil, Bool.and_true, Bool.and_eq_true, decide_eq_true_eq] at h1
    exact h1
  · cases h
/-- A valid orientation. -/
def orOK (p f : Int) : Bool := decide (0 ≤ p ∧ p ≤ 5) && (decide (0 ≤ f ∧ f ≤ 5) && decide (p / 2 ≠ f / 2))
theorem six (p : Int) (h : 0 ≤ p ∧ p ≤ 5) : p = 0 ∨ p = 1 ∨ p = 2 ∨ p = 3 ∨ p = 4 ∨ p = 5 := by omega
theorem impl_orient (p f : Int) : impl_IsOrient.f p f = some (orOK p f) := by
  unfold impl_IsOrient.f orOK
  simp only [aw_within, Option.bind_some]
  by_cases h : 0 ≤ p ∧ p ≤ 5
  · by_cases h' : 0 ≤ f ∧ f ≤ 5
    · rcases six p h with rfl | rfl | rfl | rfl | rfl | rfl <;> rcases six f h' with rfl | rfl | rfl | rfl | rfl | rfl <;> kernel_rfl
    · simp only [decide_eq_true h, decide_eq_false h', if_true, Bool.false_eq_true, if_false, Bool.true_and, Bool.false_and]
  · simp only [decide_eq_false h, Bool.false_eq_true, if_false, Bool.false_and]
theorem spec_orient (p f : Int) : spec_orGood.f p f = some (orOK p f) := by
  unfold spec_orGood.f orOK
  simp only [spec_orDir.f, in_val, Option.bind_some]
  by_cases h : 0 ≤ p ∧ p ≤ 5
  · by_cases h' : 0 ≤ f ∧ f ≤ 5
    · rcases six p h with rfl | rfl | rfl | rfl | rfl | rfl <;> rcases six f h' with rfl | rfl | rfl | rfl | rfl | rfl <;> kernel_rfl
    · simp only [decide_eq_true h, decide_eq_false h', if_true, Bool.false_eq_true, if_false, Bool.true_and, Bool.false_and]
  · simp only [decide_eq_false h, Bool.false_eq_true, if_false, Bool.false_and]
/-- A valid place. -/
def plOK (g s : Int) (c : Bool) : Bool := decide (0 ≤ g ∧ g ≤ 9) && (decide (-1 ≤ s ∧ s ≤ 1) && !(c && g == 0))
theorem impl_place (g s : Int) (c : Bool) : impl_IsPlace.f g s c = some (plOK g s c) := by
  unfold impl_IsPlace.f plOK
  simp only [aw_within, Option.bind_some]
  by_cases h : 0 ≤ g ∧ g ≤ 9
  · by_cases h' : -1 ≤ s ∧ s ≤ 1
    · simp only [decide_eq_true h, decide_eq_true h', if_true, Bool.true_and]
      cases c <;> simp
    · simp only [decide_eq_true h, decide_eq_false h', if_true, Bool.false_eq_true, if_false, Bool.true_and, Bool.false_and]
  · simp only [decide_eq_false h, Bool.false_eq_true, if_false, Bool.false_and]
theorem spec_place (g s : Int) (c : Bool) : spec_plGood.f g s c = some (plOK g s c) := by
  unfold spec_plGood.f plOK
  simp only [in_val, Option.bind_some]
  by_cases h : 0 ≤ g ∧ g ≤ 9
  · by_cases h' : -1 ≤ s ∧ s ≤ 1
    · simp only [decide_eq_true h, decide_eq_true h', if_true, Bool.true_and]
      by_cases h0 : g > 0
      · have e : (g == 0) = false := by simp; omega
        rw [if_pos h0, e]; simp
      · have e : (g == 0) = true := by simp; omega
        rw [if_neg h0, e]; simp
    · simp only [decide_eq_true h, decide_eq_false h', if_true, Bool.false_eq_true, if_false, Bool.true_and, Bool.false_and]
  · simp only [decide_eq_false h, Bool.false_eq_true, if_false, Bool.false_and]
/-- A valid hand. -/
def hdOK (t i m r l : Int) (s : Bool) (p f g d : Int) (c : Bool) (b : ByteArray) (n : Int) : Bool := shOK t i m r l s && (orOK p f && (plOK g d c && mvOK b n))
theorem spec_hand_ev (t i m r l : Int) (s : Bool) (p f g d : Int) (c : Bool) (b : ByteArray) (n : Int) (hb : b.size ≤ 1048576) : Ev (fun k => spec_siHand.f k t i m r l s p f g d c b n) (hdOK t i m r l s p f g d c b n) := by
  unfold spec_siHand.f hdOK
  refine Ev.bind (spec_shape_ev t i m r l s) ?_
  cases shOK t i m r l s
  · simp only [Bool.false_eq_true, if_false, Bool.false_and]; exact Ev.now _
  · simp only [if_true, Bool.true_and, spec_orient, Option.bind_some]
    cases orOK p f
    · simp only [Bool.false_eq_true, if_false, Bool.false_and]; exact Ev.now _
    · simp only [if_true, Bool.true_and, spec_place, Option.bind_some]
      cases plOK g d c
      · simp only [Bool.false_eq_true, if_false, Bool.false_and]; exact Ev.now _
      · simp only [if_true, Bool.true_and]
        exact Ev.bind (spec_mvGood_ev b n (by omega)) (Ev.now _)
theorem impl_hand_ev (t i m r l : Int) (s : Bool) (p f g d : Int) (c : Bool) (b : ByteArray) (n : Int) (hb : b.size ≤ 1048576) : Ev (fun k => impl_IsHand.f k t i m r l s p f g d c b n) (hdOK t i m r l s p f g d c b n) := by
  unfold impl_IsHand.f hdOK
  simp only [impl_shape, impl_orient, impl_place, Option.bind_some]
  cases shOK t i m r l s
  · simp only [Bool.false_eq_true, if_false, Bool.false_and]; exact Ev.now _
  · simp only [if_true, Bool.true_and]
    cases orOK p f
    · simp only [Bool.false_eq_true, if_false, Bool.false_and]; exact Ev.now _
    · simp only [if_true, Bool.true_and]
      cases plOK g d c
      · simp only [Bool.false_eq_true, if_false, Bool.false_and]; exact Ev.now _
      · simp only [if_true, Bool.true_and]
        exact Ev.bind (impl_IsMove_ev b n (by omega)) (Ev.now _)
end Go.Proofs.Ytadddkdfbmbagaa.PA
