/- The pure statement of FnExactEditText, and how its arguments are opened. -/
import Derived.Test.YtmmpnigbfiebbaaDoorPAx1
import Derived.Test.YtmmpnigbfiebbaaDoorOpens
namespace Go.Proofs.YtmmpnigbfiebbaaDoor.PA
open Go.RowKit Go.Proofs.YtmmpnigbfiebbaaDoorW.PrintWords Go.Proofs.YtmmpnigbfiebbaaDoorW.PrintLast Go.Proofs.YtmmpnigbfiebbaaDoorW.PrintMore
set_option linter.unusedVariables false
/-- What holds of every value of type 23. -/
def V23 (x : S23) : Prop := ((Lit.int .i64 x.f0).wf = true) ∧ (((Lit.int .i64 x.f1).wf = true) ∧ ((x.f2.size ≤ 9223372036854775807) ∧ ((x.f3.size ≤ 9223372036854775807))))
theorem opens23 : Opens Tryd.prog 23 k23 V23 := opens_struct (g := fun x : S23 => (x.f0, x.f1, x.f2, x.f3)) Tryd.underlying23 (by kernel_rfl) (opensF_cons (opens_int Tryd.underlying3) rfl (by kernel_rfl) (opensF_cons (opens_int Tryd.underlying3) rfl (by kernel_rfl) (opensF_cons (opens_string Tryd.underlying9) rfl (by kernel_rfl) (opensF_one (opens_string Tryd.underlying9) rfl (by kernel_rfl))))) (fun y => ⟨⟨y.1, y.2.1, y.2.2.1, y.2.2.2⟩, rfl⟩)
/-- THE ONE PURE STATEMENT of laws_FnExactEditText. -/
def laws_FnExactEditText.Pure : Prop := ∀ (x0 : S23), (V23 x0) → ∃ k, laws_FnExactEditText.f k x0.f0 x0.f1 x0.f2 x0.f3 = some true
end Go.Proofs.YtmmpnigbfiebbaaDoor.PA
