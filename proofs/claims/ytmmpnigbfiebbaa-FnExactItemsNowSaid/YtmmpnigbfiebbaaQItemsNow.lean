/- The plain law of the items of all edits that are done. -/
import Derived.Test.YtmmpnigbfiebbaaPAx17
import Derived.Test.YtmmpnigbfiebbaaQUnNow
import Derived.Test.YtmmpnigbfiebbaaQItemsNowI
namespace Go.Proofs.Ytmmpnigbfiebbaa.PA
open Go.RowKit Go.Proofs.YtmmpnigbfiebbaaW.PrintWords Go.Proofs.YtmmpnigbfiebbaaW.PrintLast Go.Proofs.YtmmpnigbfiebbaaW.PrintMore
set_option linter.unusedVariables false
set_option linter.unusedSimpArgs false
theorem spec_ItemsNow_ev {a : List ByteArray} {b c : List S25} (h : DOk a b c) : Ev (fun k => spec_ItemsNow.f k a b c) (iaV a b c (b.length : Int)) := by
  unfold spec_ItemsNow.f iaV
  refine Ev.bind (spec_unGood_ev h) ?_
  by_cases hg : gdV a b c = true
  · rw [if_pos ⟨hg, by omega, by omega⟩, show (b ++ c.reverse).take (b.length : Int).toNat = b by rw [Int.toNat_natCast]; exact List.take_left ..]
    simp only [if_pos hg]
    exact Ev.bind (spec_unNow_ev h (gdV_items hg)) (Ev.now _)
  · simp only [hg, if_false, false_and]
    exact Ev.now _
end Go.Proofs.Ytmmpnigbfiebbaa.PA
