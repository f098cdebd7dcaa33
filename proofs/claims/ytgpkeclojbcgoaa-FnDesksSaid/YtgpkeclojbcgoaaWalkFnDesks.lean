/- The pure statement of FnDesks, and how its arguments are opened. -/
import Derived.Test.YtgpkeclojbcgoaaPAx4
import Derived.Test.YtgpkeclojbcgoaaOpens
namespace Go.Proofs.Ytgpkeclojbcgoaa.PA
open Go.RowKit Go.Proofs.YtgpkeclojbcgoaaW.PrintWords Go.Proofs.YtgpkeclojbcgoaaW.PrintLast Go.Proofs.YtgpkeclojbcgoaaW.PrintMore
set_option linter.unusedVariables false
/-- THE ONE PURE STATEMENT of laws_FnDesks. -/
def laws_FnDesks.Pure : Prop := ∀ (x0 : List Int) (x1 : List Int), (x0.length ≤ 9223372036854775807 ∧ ∀ x_ ∈ x0, (Lit.int .u8 x_).wf = true) → (x1.length ≤ 9223372036854775807 ∧ ∀ x_ ∈ x1, (Lit.int .u8 x_).wf = true) → ∃ k, laws_FnDesks.f k x0 x1 = some true
end Go.Proofs.Ytgpkeclojbcgoaa.PA
