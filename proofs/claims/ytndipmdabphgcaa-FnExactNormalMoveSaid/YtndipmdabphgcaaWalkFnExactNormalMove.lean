/- The pure statement of FnExactNormalMove, and how its arguments are opened. -/
import Derived.Test.YtndipmdabphgcaaPAx25
import Derived.Test.YtndipmdabphgcaaOpens
namespace Go.Proofs.Ytndipmdabphgcaa.PA
open Go.RowKit Go.Proofs.YtndipmdabphgcaaW.PrintWords Go.Proofs.YtndipmdabphgcaaW.PrintLast Go.Proofs.YtndipmdabphgcaaW.PrintMore
set_option linter.unusedVariables false
/-- What holds of every value of type 29. -/
def V29 (x : S29) : Prop := (x.f0.size ≤ 9223372036854775807) ∧ (((Lit.int .i64 x.f1).wf = true))
theorem opens29 : Opens Try.prog 29 k29 V29 := opens_struct (g := fun x : S29 => (x.f0, x.f1)) Try.underlying29 (by kernel_rfl) (opensF_cons (opens_string Try.underlying9) rfl (by kernel_rfl) (opensF_one (opens_int Try.underlying3) rfl (by kernel_rfl))) (fun y => ⟨⟨y.1, y.2⟩, rfl⟩)
/-- THE ONE PURE STATEMENT of laws_FnExactNormalMove. -/
def laws_FnExactNormalMove.Pure : Prop := ∀ (x0 : S29), (V29 x0) → ∃ k, laws_FnExactNormalMove.f k x0.f0 x0.f1 = some true
end Go.Proofs.Ytndipmdabphgcaa.PA
