/- The pure statement of FnExactStartDesk, and how its arguments are opened. -/
import Derived.Test.YtmmpnigbfiebbaaPAx14
import Derived.Test.YtmmpnigbfiebbaaOpens
namespace Go.Proofs.Ytmmpnigbfiebbaa.PA
open Go.RowKit Go.Proofs.YtmmpnigbfiebbaaW.PrintWords Go.Proofs.YtmmpnigbfiebbaaW.PrintLast Go.Proofs.YtmmpnigbfiebbaaW.PrintMore
set_option linter.unusedVariables false
/-- THE ONE PURE STATEMENT of laws_FnExactStartDesk. -/
def laws_FnExactStartDesk.Pure : Prop := ∀ (x0 : List ByteArray), (x0.length ≤ 9223372036854775807 ∧ ∀ x_ ∈ x0, x_.size ≤ 9223372036854775807) → ∃ k, laws_FnExactStartDesk.f k x0 = some true
end Go.Proofs.Ytmmpnigbfiebbaa.PA
