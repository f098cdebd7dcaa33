/- The pure statement of FnExactHandDistance, and how its arguments are opened. -/
import Derived.Test.YtadddkdfbmbagaaPAx8
import Derived.Test.YtadddkdfbmbagaaOpens
namespace Go.Proofs.Ytadddkdfbmbagaa.PA
open Go.RowKit Go.Proofs.YtadddkdfbmbagaaW.PrintWords Go.Proofs.YtadddkdfbmbagaaW.PrintLast Go.Proofs.YtadddkdfbmbagaaW.PrintMore
set_option linter.unusedVariables false
/-- What holds of every value of type 34. -/
def V34 (x : S34) : Prop := ((Lit.int .i64 x.f0).wf = true) ∧ (((Lit.int .i64 x.f1).wf = true) ∧ (((Lit.int .i64 x.f2).wf = true) ∧ (((Lit.int .i64 x.f3).wf = true) ∧ (((Lit.int .i64 x.f4).wf = true) ∧ ((True))))))
theorem opens34 : Opens Try.prog 34 k34 V34 := opens_struct (g := fun x : S34 => (x.f0, x.f1, x.f2, x.f3, x.f4, x.f5)) Try.underlying34 (by kernel_rfl) (opensF_cons (opens_int Try.underlying3) rfl (by kernel_rfl) (opensF_cons (opens_int Try.underlying3) rfl (by kernel_rfl) (opensF_cons (opens_int Try.underlying3) rfl (by kernel_rfl) (opensF_cons (opens_int Try.underlying3) rfl (by kernel_rfl) (opensF_cons (opens_int Try.underlying3) rfl (by kernel_rfl) (opensF_one (opens_bool Try.underlying4) rfl (by kernel_rfl))))))) (fun y => ⟨⟨y.1, y.2.1, y.2.2.1, y.2.2.2.1, y.2.2.2.2.1, y.2.2.2.2.2⟩, rfl⟩)
/-- What holds of every value of type 36. -/
def V36 (x : S36) : Prop := ((Lit.int .i64 x.f0).wf = true) ∧ (((Lit.int .i64 x.f1).wf = true))
theorem opens36 : Opens Try.prog 36 k36 V36 := opens_struct (g := fun x : S36 => (x.f0, x.f1)) Try.underlying36 (by kernel_rfl) (opensF_cons (opens_int Try.underlying3) rfl (by kernel_rfl) (opensF_one (opens_int Try.underlying3) rfl (by kernel_rfl))) (fun y => ⟨⟨y.1, y.2⟩, rfl⟩)
/-- What holds of every value of type 38. -/
def V38 (x : S38) : Prop := ((Lit.int .i64 x.f0).wf = true) ∧ (((Lit.int .i64 x.f1).wf = true) ∧ ((True)))
theorem opens38 : Opens Try.prog 38 k38 V38 := opens_struct (g := fun x : S38 => (x.f0, x.f1, x.f2)) Try.underlying38 (by kernel_rfl) (opensF_cons (opens_int Try.underlying3) rfl (by kernel_rfl) (opensF_cons (opens_int Try.underlying3) rfl (by kernel_rfl) (opensF_one (opens_bool Try.underlying4) rfl (by kernel_rfl)))) (fun y => ⟨⟨y.1, y.2.1, y.2.2⟩, rfl⟩)
/-- What holds of every value of type 23. -/
def V23 (x : S23) : Prop := (x.f0.size ≤ 9223372036854775807) ∧ (((Lit.int .i64 x.f1).wf = true))
theorem opens23 : Opens Try.prog 23 k23 V23 := opens_struct (g := fun x : S23 => (x.f0, x.f1)) Try.underlying23 (by kernel_rfl) (opensF_cons (opens_string Try.underlying9) rfl (by kernel_rfl) (opensF_one (opens_int Try.underlying3) rfl (by kernel_rfl))) (fun y => ⟨⟨y.1, y.2⟩, rfl⟩)
/-- What holds of every value of type 40. -/
def V40 (x : S40) : Prop := (V34 x.f0) ∧ ((V36 x.f1) ∧ ((V38 x.f2) ∧ ((V23 x.f3))))
theorem opens40 : Opens Try.prog 40 k40 V40 := opens_struct (g := fun x : S40 => (x.f0, x.f1, x.f2, x.f3)) Try.underlying40 (by kernel_rfl) (opensF_cons opens34 rfl (by kernel_rfl) (opensF_cons opens36 rfl (by kernel_rfl) (opensF_cons opens38 rfl (by kernel_rfl) (opensF_one opens23 rfl (by kernel_rfl))))) (fun y => ⟨⟨y.1, y.2.1, y.2.2.1, y.2.2.2⟩, rfl⟩)
/-- THE ONE PURE STATEMENT of laws_FnExactHandDistance. -/
def laws_FnExactHandDistance.Pure : Prop := ∀ (x0 : S40) (x1 : S40), (V40 x0) → (V40 x1) → ∃ k, laws_FnExactHandDistance.f k x0.f0.f0 x0.f0.f1 x0.f0.f2 x0.f0.f3 x0.f0.f4 x0.f0.f5 x0.f1.f0 x0.f1.f1 x0.f2.f0 x0.f2.f1 x0.f2.f2 x0.f3.f0 x0.f3.f1 x1.f0.f0 x1.f0.f1 x1.f0.f2 x1.f0.f3 x1.f0.f4 x1.f0.f5 x1.f1.f0 x1.f1.f1 x1.f2.f0 x1.f2.f1 x1.f2.f2 x1.f3.f0 x1.f3.f1 = some true
end Go.Proofs.Ytadddkdfbmbagaa.PA
