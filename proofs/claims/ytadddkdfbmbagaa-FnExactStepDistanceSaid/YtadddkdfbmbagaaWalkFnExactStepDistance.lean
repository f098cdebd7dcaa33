/- The pure statement of FnExactStepDistance, and how its arguments are opened. -/
import Derived.Test.YtadddkdfbmbagaaPAx4
import Derived.Test.YtadddkdfbmbagaaOpens
namespace Go.Proofs.Ytadddkdfbmbagaa.PA
open Go.RowKit Go.Proofs.YtadddkdfbmbagaaW.PrintWords Go.Proofs.YtadddkdfbmbagaaW.PrintLast Go.Proofs.YtadddkdfbmbagaaW.PrintMore
set_option linter.unusedVariables false
/-- What holds of every value of type 23. -/
def V23 (x : S23) : Prop := (x.f0.size ≤ 9223372036854775807) ∧ (((Lit.int .i64 x.f1).wf = true))
theorem opens23 : Opens Try.prog 23 k23 V23 := opens_struct (g := fun x : S23 => (x.f0, x.f1)) Try.underlying23 (by kernel_rfl) (opensF_cons (opens_string Try.underlying9) rfl (by kernel_rfl) (opensF_one (opens_int Try.underlying3) rfl (by kernel_rfl))) (fun y => ⟨⟨y.1, y.2⟩, rfl⟩)
/-- THE ONE PURE STATEMENT of laws_FnExactStepDistance. -/
def laws_FnExactStepDistance.Pure : Prop := ∀ (x0 : S23) (x1 : S23), (V23 x0) → (V23 x1) → ∃ k, laws_FnExactStepDistance.f k x0.f0 x0.f1 x1.f0 x1.f1 = some true
end Go.Proofs.Ytadddkdfbmbagaa.PA
