/- The plain law of the comparison of one edit. -/
import Derived.Test.YtmmpnigbfiebbaaPAx1
import Derived.Test.YtmmpnigbfiebbaaQGloss
namespace Go.Proofs.Ytmmpnigbfiebbaa.PA
open Go.RowKit Go.Proofs.YtmmpnigbfiebbaaW.PrintWords Go.Proofs.YtmmpnigbfiebbaaW.PrintLast Go.Proofs.YtmmpnigbfiebbaaW.PrintMore
set_option linter.unusedVariables false
set_option linter.unusedSimpArgs false
theorem eqDeskEdit_same (a0 a1 : Int) (a2 a3 : ByteArray) : laws_eqDeskEdit.f a0 a1 a2 a3 a0 a1 a2 a3 = some true := by
  unfold laws_eqDeskEdit.f; simp
end Go.Proofs.Ytmmpnigbfiebbaa.PA
