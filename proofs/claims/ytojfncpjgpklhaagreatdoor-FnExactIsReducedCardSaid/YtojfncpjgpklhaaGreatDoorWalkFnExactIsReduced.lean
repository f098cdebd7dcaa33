/- The pure statement of FnExactIsReduced, and how its arguments are opened. -/
import Derived.Test.YtojfncpjgpklhaaGreatDoorPAx9
import Derived.Test.YtojfncpjgpklhaaGreatDoorOpens
namespace Go.Proofs.YtojfncpjgpklhaaGreatDoor.PA
open Go.RowKit Go.Proofs.YtojfncpjgpklhaaGreatDoorW.PrintWords Go.Proofs.YtojfncpjgpklhaaGreatDoorW.PrintLast Go.Proofs.YtojfncpjgpklhaaGreatDoorW.PrintMore
set_option linter.unusedVariables false
/-- What holds of every value of type 23. -/
def V23 (x : S23) : Prop := ((Lit.int .i64 x.f0).wf = true) ∧ (((Lit.int .i64 x.f1).wf = true) ∧ (((Lit.int .i64 x.f2).wf = true) ∧ (((Lit.int .i64 x.f3).wf = true) ∧ (((Lit.int .i64 x.f4).wf = true) ∧ ((True))))))
theorem opens23 : Opens Tryz.prog 23 k23 V23 := opens_struct (g := fun x : S23 => (x.f0, x.f1, x.f2, x.f3, x.f4, x.f5)) Tryz.underlying23 (by kernel_rfl) (opensF_cons (opens_int Tryz.underlying3) rfl (by kernel_rfl) (opensF_cons (opens_int Tryz.underlying3) rfl (by kernel_rfl) (opensF_cons (opens_int Tryz.underlying3) rfl (by kernel_rfl) (opensF_cons (opens_int Tryz.underlying3) rfl (by kernel_rfl) (opensF_cons (opens_int Tryz.underlying3) rfl (by kernel_rfl) (opensF_one (opens_bool Tryz.underlying4) rfl (by kernel_rfl))))))) (fun y => ⟨⟨y.1, y.2.1, y.2.2.1, y.2.2.2.1, y.2.2.2.2.1, y.2.2.2.2.2⟩, rfl⟩)
/-- What holds of every value of type 25. -/
def V25 (x : S25) : Prop := ((Lit.int .i64 x.f0).wf = true) ∧ (((Lit.int .i64 x.f1).wf = true))
theorem opens25 : Opens Tryz.prog 25 k25 V25 := opens_struct (g := fun x : S25 => (x.f0, x.f1)) Tryz.underlying25 (by kernel_rfl) (opensF_cons (opens_int Tryz.underlying3) rfl (by kernel_rfl) (opensF_one (opens_int Tryz.underlying3) rfl (by kernel_rfl))) (fun y => ⟨⟨y.1, y.2⟩, rfl⟩)
/-- What holds of every value of type 27. -/
def V27 (x : S27) : Prop := ((Lit.int .i64 x.f0).wf = true) ∧ (((Lit.int .i64 x.f1).wf = true) ∧ ((True)))
theorem opens27 : Opens Tryz.prog 27 k27 V27 := opens_struct (g := fun x : S27 => (x.f0, x.f1, x.f2)) Tryz.underlying27 (by kernel_rfl) (opensF_cons (opens_int Tryz.underlying3) rfl (by kernel_rfl) (opensF_cons (opens_int Tryz.underlying3) rfl (by kernel_rfl) (opensF_one (opens_bool Tryz.underlying4) rfl (by kernel_rfl)))) (fun y => ⟨⟨y.1, y.2.1, y.2.2⟩, rfl⟩)
/-- What holds of every value of type 29. -/
def V29 (x : S29) : Prop := (x.f0.size ≤ 9223372036854775807) ∧ (((Lit.int .i64 x.f1).wf = true))
theorem opens29 : Opens Tryz.prog 29 k29 V29 := opens_struct (g := fun x : S29 => (x.f0, x.f1)) Tryz.underlying29 (by kernel_rfl) (opensF_cons (opens_string Tryz.underlying9) rfl (by kernel_rfl) (opensF_one (opens_int Tryz.underlying3) rfl (by kernel_rfl))) (fun y => ⟨⟨y.1, y.2⟩, rfl⟩)
/-- What holds of every value of type 31. -/
def V31 (x : S31) : Prop := (V23 x.f0) ∧ ((V25 x.f1) ∧ ((V27 x.f2) ∧ ((V29 x.f3))))
theorem opens31 : Opens Tryz.prog 31 k31 V31 := opens_struct (g := fun x : S31 => (x.f0, x.f1, x.f2, x.f3)) Tryz.underlying31 (by kernel_rfl) (opensF_cons opens23 rfl (by kernel_rfl) (opensF_cons opens25 rfl (by kernel_rfl) (opensF_cons opens27 rfl (by kernel_rfl) (opensF_one opens29 rfl (by kernel_rfl))))) (fun y => ⟨⟨y.1, y.2.1, y.2.2.1, y.2.2.2⟩, rfl⟩)
/-- What holds of every value of type 33. -/
def V33 (x : S33) : Prop := (V31 x.f0) ∧ ((True) ∧ ((V31 x.f2)))
theorem opens33 : Opens Tryz.prog 33 k33 V33 := opens_struct (g := fun x : S33 => (x.f0, x.f1, x.f2)) Tryz.underlying33 (by kernel_rfl) (opensF_cons opens31 rfl (by kernel_rfl) (opensF_cons (opens_bool Tryz.underlying4) rfl (by kernel_rfl) (opensF_one opens31 rfl (by kernel_rfl)))) (fun y => ⟨⟨y.1, y.2.1, y.2.2⟩, rfl⟩)
/-- THE ONE PURE STATEMENT of laws_FnExactIsReduced. -/
def laws_FnExactIsReduced.Pure : Prop := ∀ (x0 : List (S33)), (x0.length ≤ 9223372036854775807 ∧ ∀ x_ ∈ x0, V33 x_) → ∃ k, laws_FnExactIsReduced.f k x0 = some true
end Go.Proofs.YtojfncpjgpklhaaGreatDoor.PA
