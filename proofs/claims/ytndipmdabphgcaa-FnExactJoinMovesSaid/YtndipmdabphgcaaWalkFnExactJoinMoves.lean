/- The pure statement of FnExactJoinMoves, and how its arguments are opened. -/
import Derived.Test.YtndipmdabphgcaaPAx7
import Derived.Test.YtndipmdabphgcaaOpens
namespace Go.Proofs.Ytndipmdabphgcaa.PA
open Go.RowKit Go.Proofs.YtndipmdabphgcaaW.PrintWords Go.Proofs.YtndipmdabphgcaaW.PrintLast Go.Proofs.YtndipmdabphgcaaW.PrintMore
set_option linter.unusedVariables false
/-- What holds of every value of type 29. -/
def V29 (x : S29) : Prop := (x.f0.size ≤ 9223372036854775807) ∧ (((Lit.int .i64 x.f1).wf = true))
theorem opens29 : Opens Try.prog 29 k29 V29 := opens_struct (g := fun x : S29 => (x.f0, x.f1)) Try.underlying29 (by kernel_rfl) (opensF_cons (opens_string Try.underlying9) rfl (by kernel_rfl) (opensF_one (opens_int Try.underlying3) rfl (by kernel_rfl))) (fun y => ⟨⟨y.1, y.2⟩, rfl⟩)
/-- THE ONE PURE STATEMENT of laws_FnExactJoinMoves. -/
def laws_FnExactJoinMoves.Pure : Prop := ∀ (x0 : S29) (x1 : S29), (V29 x0) → (V29 x1) → ∃ k, laws_FnExactJoinMoves.f k x0.f0 x0.f1 x1.f0 x1.f1 = some true
end Go.Proofs.Ytndipmdabphgcaa.PA
