/- The plain law of RedoEdit. -/
import Derived.Test.YtmmpnigbfiebbaaPAx18
import Derived.Test.YtmmpnigbfiebbaaQUnDesk
namespace Go.Proofs.Ytmmpnigbfiebbaa.PA
open Go.RowKit Go.Proofs.YtmmpnigbfiebbaaW.PrintWords Go.Proofs.YtmmpnigbfiebbaaW.PrintLast Go.Proofs.YtmmpnigbfiebbaaW.PrintMore
set_option linter.unusedVariables false
set_option linter.unusedSimpArgs false
def rdV (a : List ByteArray) (b c : List S25) : List ByteArray × List S25 × List S25 × Bool := if gdV a b c = true then (if (c.length : Int) = 0 then noD else (a, b ++ [rd_T25 c ((c.length : Int) - 1)], c.take ((c.length : Int) - 1).toNat, true)) else noD
theorem rdV_len (a : List ByteArray) (b c : List S25) : Short (rdV a b c) := by
  unfold rdV Short
  split
  · rename_i h
    have h1 := gdV_items h
    have h2 := gdV_small h
    split
    · simp [noD]
    · simp; omega
  · simp [noD]
theorem spec_RedoEdit_ev {a : List ByteArray} {b c : List S25} (h : DOk a b c) : Ev (fun k => spec_RedoEdit.f k a b c) (rdV a b c) := by
  unfold spec_RedoEdit.f rdV
  refine Ev.bind (spec_unGood_ev h) ?_
  by_cases hg : gdV a b c = true
  · have h1 := gdV_items hg
    have h2 := gdV_small hg
    simp only [if_pos hg]
    by_cases h0 : (c.length : Int) = 0
    · simp only [if_pos h0]; exact Ev.now _
    · simp only [if_neg h0]
      have hw : wrap64 ((c.length : Int) - 1) = (c.length : Int) - 1 := w64_i (by omega) (by omega)
      refine Ev.congr (f := fun _ => some (a, b ++ [rd_T25 c ((c.length : Int) - 1)], c.take ((c.length : Int) - 1).toNat, true)) (fun k => ?_) (Ev.now _)
      simp only [Option.bind_some, hw]
      rw [if_pos (by simp; omega), if_pos (by omega), if_pos (by omega), if_pos (by simp; omega), if_pos (by omega), unDesk_val _ _ _ _ _ (by omega) (by simp; omega) (by simp; omega)]
      rfl
  · simp only [if_neg hg]; exact Ev.now _
theorem impl_RedoEdit_ev {a : List ByteArray} {b c : List S25} (h : DOk a b c) : Ev (fun k => impl_RedoEdit.f k a b c) (rdV a b c) := by
  obtain ⟨⟨ha, hs⟩, ⟨hb, _⟩, hc, _⟩ := id h
  unfold impl_RedoEdit.f rdV
  refine Ev.bind (impl_IsDesk_ev h) ?_
  have hw : wrap64 ((c.length : Int) - 1) = (c.length : Int) - 1 := w64_i (by omega) (by omega)
  rw [hw]
  by_cases hg : gdV a b c = true
  · have h1 := gdV_items hg
    have h2 := gdV_small hg
    simp only [if_pos hg]
    refine Ev.shift ?_
    simp only [impl_RedoEdit.j0]
    by_cases h0 : (c.length : Int) = 0
    · simp only [if_pos h0, decide_eq_true (show (c.length : Int) - 1 < 0 by omega), if_true]; exact Ev.now _
    · simp only [if_neg h0, decide_eq_false (show ¬ (c.length : Int) - 1 < 0 by omega), Bool.false_eq_true, if_false]
      refine Ev.congr (f := fun _ => some (a, b ++ [rd_T25 c ((c.length : Int) - 1)], c.take ((c.length : Int) - 1).toNat, true)) (fun k => ?_) (Ev.now _)
      simp only [slices_Clone_string_string.f, impl_DeskEdit_69.f]
      rw [if_pos (by omega), Option.bind_some, if_pos (by omega), Option.bind_some, if_pos (by omega), if_pos (by omega), Option.bind_some, if_pos (by simp; omega), if_pos (by omega), if_pos (by simp; omega), Option.bind_some]
  · simp only [if_neg hg]
    refine Ev.shift ?_
    simp only [impl_RedoEdit.j0, if_true]
    exact Ev.now _
end Go.Proofs.Ytmmpnigbfiebbaa.PA
