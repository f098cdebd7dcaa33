/- The plain law of the items of all edits that are done, of the reference. -/
import Derived.Test.YtmmpnigbfiebbaaPAx10
import Derived.Test.YtmmpnigbfiebbaaQItems
namespace Go.Proofs.Ytmmpnigbfiebbaa.PA
open Go.RowKit Go.Proofs.YtmmpnigbfiebbaaW.PrintWords Go.Proofs.YtmmpnigbfiebbaaW.PrintLast Go.Proofs.YtmmpnigbfiebbaaW.PrintMore
set_option linter.unusedVariables false
set_option linter.unusedSimpArgs false
theorem spec_unNow_ev {a : List ByteArray} {b c : List S25} (h : DOk a b c) (ha : a.length ≤ 20) : Ev (fun k => spec_unNow.f k a b c) (umR (uaV a b)).1 := by
  unfold spec_unNow.f
  exact Ev.bind (spec_unAfter_ev a ha b h.2.1.1 h.2.1.2) (Ev.now _)
end Go.Proofs.Ytmmpnigbfiebbaa.PA
