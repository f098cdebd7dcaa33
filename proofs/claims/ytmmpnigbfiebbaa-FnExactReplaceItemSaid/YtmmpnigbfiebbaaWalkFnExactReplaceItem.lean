/- The pure statement of FnExactReplaceItem, and how its arguments are opened. -/
import Derived.Test.YtmmpnigbfiebbaaPAx29
import Derived.Test.YtmmpnigbfiebbaaOpens
namespace Go.Proofs.Ytmmpnigbfiebbaa.PA
open Go.RowKit Go.Proofs.YtmmpnigbfiebbaaW.PrintWords Go.Proofs.YtmmpnigbfiebbaaW.PrintLast Go.Proofs.YtmmpnigbfiebbaaW.PrintMore
set_option linter.unusedVariables false
/-- What holds of every value of type 23. -/
def V23 (x : S23) : Prop := ((Lit.int .i64 x.f0).wf = true) ∧ (((Lit.int .i64 x.f1).wf = true) ∧ ((x.f2.size ≤ 9223372036854775807) ∧ ((x.f3.size ≤ 9223372036854775807))))
theorem opens23 : Opens Try.prog 23 k23 V23 := opens_struct (g := fun x : S23 => (x.f0, x.f1, x.f2, x.f3)) Try.underlying23 (by kernel_rfl) (opensF_cons (opens_int Try.underlying3) rfl (by kernel_rfl) (opensF_cons (opens_int Try.underlying3) rfl (by kernel_rfl) (opensF_cons (opens_string Try.underlying9) rfl (by kernel_rfl) (opensF_one (opens_string Try.underlying9) rfl (by kernel_rfl))))) (fun y => ⟨⟨y.1, y.2.1, y.2.2.1, y.2.2.2⟩, rfl⟩)
/-- What holds of every value of type 45. -/
def V45 (x : S45) : Prop := (x.f0.length ≤ 9223372036854775807 ∧ ∀ x_ ∈ x.f0, x_.size ≤ 9223372036854775807) ∧ ((x.f1.length ≤ 9223372036854775807 ∧ ∀ x_ ∈ x.f1, V23 x_) ∧ ((x.f2.length ≤ 9223372036854775807 ∧ ∀ x_ ∈ x.f2, V23 x_)))
theorem opens45 : Opens Try.prog 45 k45 V45 := opens_struct (g := fun x : S45 => (x.f0, x.f1, x.f2)) Try.underlying45 (by kernel_rfl) (opensF_cons (opens_slice Try.underlying31 (by kernel_rfl) (opens_string Try.underlying9)) rfl (by kernel_rfl) (opensF_cons (opens_slice Try.underlying43 (by kernel_rfl) opens23) rfl (by kernel_rfl) (opensF_one (opens_slice Try.underlying43 (by kernel_rfl) opens23) rfl (by kernel_rfl)))) (fun y => ⟨⟨y.1, y.2.1, y.2.2⟩, rfl⟩)
/-- THE ONE PURE STATEMENT of laws_FnExactReplaceItem. -/
def laws_FnExactReplaceItem.Pure : Prop := ∀ (x0 : S45) (x1 : Int) (x2 : ByteArray), (V45 x0) → ((Lit.int .i64 x1).wf = true) → (x2.size ≤ 9223372036854775807) → ∃ k, laws_FnExactReplaceItem.f k x0.f0 x0.f1 x0.f2 x1 x2 = some true
end Go.Proofs.Ytmmpnigbfiebbaa.PA
