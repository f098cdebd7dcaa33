/- The pure statement of FnMoveEnds, and how its arguments are opened. -/
import Derived.Test.YtolhmpagpoidjaaGreatPAx2
import Derived.Test.YtolhmpagpoidjaaGreatOpens
namespace Go.Proofs.YtolhmpagpoidjaaGreat.PA
open Go.RowKit Go.Proofs.YtolhmpagpoidjaaGreatW.PrintWords Go.Proofs.YtolhmpagpoidjaaGreatW.PrintLast Go.Proofs.YtolhmpagpoidjaaGreatW.PrintMore
set_option linter.unusedVariables false
/-- THE ONE PURE STATEMENT of laws_FnMoveEnds. -/
def laws_FnMoveEnds.Pure : Prop := ∀ (x0 : List Int) (x1 : List Int), (x0.length ≤ 9223372036854775807 ∧ ∀ x_ ∈ x0, (Lit.int .u8 x_).wf = true) → (x1.length ≤ 9223372036854775807 ∧ ∀ x_ ∈ x1, (Lit.int .u8 x_).wf = true) → ∃ k, laws_FnMoveEnds.f k x0 x1 = some true
end Go.Proofs.YtolhmpagpoidjaaGreat.PA
