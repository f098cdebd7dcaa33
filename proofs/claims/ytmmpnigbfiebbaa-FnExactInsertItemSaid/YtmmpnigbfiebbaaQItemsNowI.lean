/- The plain law of the items of all edits that are done, of the program. -/
import Derived.Test.YtmmpnigbfiebbaaPAx10
import Derived.Test.YtmmpnigbfiebbaaQItemsAfterI
namespace Go.Proofs.Ytmmpnigbfiebbaa.PA
open Go.RowKit Go.Proofs.YtmmpnigbfiebbaaW.PrintWords Go.Proofs.YtmmpnigbfiebbaaW.PrintLast Go.Proofs.YtmmpnigbfiebbaaW.PrintMore
set_option linter.unusedVariables false
set_option linter.unusedSimpArgs false
theorem impl_ItemsNow_ev {a : List ByteArray} {b c : List S25} (h : DOk a b c) : Ev (fun k => impl_ItemsNow.f k a b c) (iaV a b c (b.length : Int)) := by
  unfold impl_ItemsNow.f
  exact Ev.bind (impl_ItemsAfter_ev h _) (Ev.now _)
end Go.Proofs.Ytmmpnigbfiebbaa.PA
