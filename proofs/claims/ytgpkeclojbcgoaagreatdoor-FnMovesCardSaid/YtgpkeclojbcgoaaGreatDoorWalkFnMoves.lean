/- The pure statement of FnMoves, and how its arguments are opened. -/
import Derived.Test.YtgpkeclojbcgoaaGreatDoorPAx3
import Derived.Test.YtgpkeclojbcgoaaGreatDoorOpens
namespace Go.Proofs.YtgpkeclojbcgoaaGreatDoor.PA
open Go.RowKit Go.Proofs.YtgpkeclojbcgoaaGreatDoorW.PrintWords Go.Proofs.YtgpkeclojbcgoaaGreatDoorW.PrintLast Go.Proofs.YtgpkeclojbcgoaaGreatDoorW.PrintMore
set_option linter.unusedVariables false
/-- THE ONE PURE STATEMENT of laws_FnMoves. -/
def laws_FnMoves.Pure : Prop := ∀ (x0 : List Int) (x1 : List Int), (x0.length ≤ 9223372036854775807 ∧ ∀ x_ ∈ x0, (Lit.int .u8 x_).wf = true) → (x1.length ≤ 9223372036854775807 ∧ ∀ x_ ∈ x1, (Lit.int .u8 x_).wf = true) → ∃ k, laws_FnMoves.f k x0 x1 = some true
end Go.Proofs.YtgpkeclojbcgoaaGreatDoor.PA
