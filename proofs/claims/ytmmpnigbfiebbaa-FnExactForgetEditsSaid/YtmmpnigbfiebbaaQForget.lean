/- The plain law of ForgetEdits. -/
import Derived.Test.YtmmpnigbfiebbaaPAx22
import Derived.Test.YtmmpnigbfiebbaaQUnDesk
namespace Go.Proofs.Ytmmpnigbfiebbaa.PA
open Go.RowKit Go.Proofs.YtmmpnigbfiebbaaW.PrintWords Go.Proofs.YtmmpnigbfiebbaaW.PrintLast Go.Proofs.YtmmpnigbfiebbaaW.PrintMore
set_option linter.unusedVariables false
set_option linter.unusedSimpArgs false
def fgV (a : List ByteArray) (b c : List S25) (n : Int) : List ByteArray × List S25 × List S25 × Bool := if gdV a b c = true ∧ (0 ≤ n ∧ n ≤ (b.length : Int)) then ((umR (uaV a (b.take n.toNat))).1, b.drop n.toNat, c, true) else noD
theorem fgV_len (a : List ByteArray) (b c : List S25) (n : Int) : Short (fgV a b c n) := by
  unfold fgV Short
  split
  · rename_i h
    have h1 := umR_len (gdV_items h.1) (b.take n.toNat)
    have h2 := gdV_small h.1
    refine ⟨by simp only []; omega, by simp; omega, by simp only []; omega⟩
  · simp [noD]
theorem spec_ForgetEdits_ev {a : List ByteArray} {b c : List S25} (h : DOk a b c) (n : Int) : Ev (fun k => spec_ForgetEdits.f k a b c n) (fgV a b c n) := by
  obtain ⟨⟨ha, hs⟩, ⟨hb, hbe⟩, hc, _⟩ := id h
  unfold spec_ForgetEdits.f fgV
  refine Ev.bind (spec_unGood_ev h) ?_
  by_cases hg : gdV a b c = true
  · simp only [if_pos hg, in_val, Option.bind_some, hg, true_and]
    refine Ev.shift ?_
    simp only [spec_ForgetEdits.j0]
    by_cases hn : 0 ≤ n ∧ n ≤ (b.length : Int)
    · simp only [if_pos hn, decide_eq_true hn, Bool.not_true, Bool.false_eq_true, if_false]
      refine Ev.congr (fun k => by rw [if_pos hn.1, if_pos hn.2, unDesk_val _ _ _ _ _ (by omega) (by simp; omega) (by omega), Option.bind_some]) ?_
      exact Ev.bind (spec_unAfter_ev a (gdV_items hg) _ (by simp; omega) (take_ok hbe _)) (Ev.now _)
    · simp only [if_neg hn, decide_eq_false hn, Bool.not_false, if_true]
      exact Ev.now _
  · simp only [hg, if_false, false_and]
    refine Ev.shift ?_
    simp only [spec_ForgetEdits.j0, if_true]
    exact Ev.now _
theorem impl_ForgetEdits_ev {a : List ByteArray} {b c : List S25} (h : DOk a b c) (n : Int) : Ev (fun k => impl_ForgetEdits.f k a b c n) (fgV a b c n) := by
  obtain ⟨⟨ha, hs⟩, ⟨hb, hbe⟩, hc, _⟩ := id h
  unfold impl_ForgetEdits.f fgV
  refine Ev.bind (impl_IsDesk_ev h) ?_
  by_cases hg : gdV a b c = true
  · have h2 := gdV_small hg
    simp only [if_pos hg, within_val, Option.bind_some, hg, true_and]
    refine Ev.shift ?_
    simp only [impl_ForgetEdits.j0]
    by_cases hn : 0 ≤ n ∧ n ≤ (b.length : Int)
    · simp only [if_pos hn, decide_eq_true hn, Bool.not_true, Bool.false_eq_true, if_false]
      refine Ev.congr (fun k => by rw [if_pos hn.1, if_pos hn.2]) ?_
      refine Ev.bind (impl_made_ev a (gdV_items hg) _ (by simp; omega) (take_ok hbe _)) ?_
      refine Ev.congr (f := fun _ => some ((umR (uaV a (b.take n.toNat))).1, b.drop n.toNat, c, true)) (fun k => ?_) (Ev.now _)
      simp only [impl_DeskEdit_69.f]
      rw [if_pos (by simp; omega), Option.bind_some, if_pos (by omega), Option.bind_some]
    · simp only [if_neg hn, decide_eq_false hn, Bool.not_false, if_true]
      exact Ev.now _
  · simp only [hg, if_false, false_and]
    refine Ev.shift ?_
    simp only [impl_ForgetEdits.j0, if_true]
    exact Ev.now _
end Go.Proofs.Ytmmpnigbfiebbaa.PA
