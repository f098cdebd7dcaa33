/- The pure statement of FnExactBrokenBy, and how its arguments are opened. -/
import Derived.Test.YtcicpmhcmlfhbaaGreatDoorPAx7
import Derived.Test.YtcicpmhcmlfhbaaGreatDoorOpens
namespace Go.Proofs.YtcicpmhcmlfhbaaGreatDoor.PA
open Go.RowKit Go.Proofs.YtcicpmhcmlfhbaaGreatDoorW.PrintWords Go.Proofs.YtcicpmhcmlfhbaaGreatDoorW.PrintLast Go.Proofs.YtcicpmhcmlfhbaaGreatDoorW.PrintMore
set_option linter.unusedVariables false
/-- What holds of every value of type 63. -/
def V63 (x : S63) : Prop := ((Lit.int .i64 x.f0).wf = true) ∧ (((Lit.int .i64 x.f1).wf = true) ∧ (((Lit.int .i64 x.f2).wf = true) ∧ (((Lit.int .i64 x.f3).wf = true) ∧ (((Lit.int .i64 x.f4).wf = true) ∧ ((True))))))
theorem opens63 : Opens Tryz.prog 63 k63 V63 := opens_struct (g := fun x : S63 => (x.f0, x.f1, x.f2, x.f3, x.f4, x.f5)) Tryz.underlying63 (by kernel_rfl) (opensF_cons (opens_int Tryz.underlying3) rfl (by kernel_rfl) (opensF_cons (opens_int Tryz.underlying3) rfl (by kernel_rfl) (opensF_cons (opens_int Tryz.underlying3) rfl (by kernel_rfl) (opensF_cons (opens_int Tryz.underlying3) rfl (by kernel_rfl) (opensF_cons (opens_int Tryz.underlying3) rfl (by kernel_rfl) (opensF_one (opens_bool Tryz.underlying4) rfl (by kernel_rfl))))))) (fun y => ⟨⟨y.1, y.2.1, y.2.2.1, y.2.2.2.1, y.2.2.2.2.1, y.2.2.2.2.2⟩, rfl⟩)
/-- What holds of every value of type 64. -/
def V64 (x : S64) : Prop := ((Lit.int .i64 x.f0).wf = true) ∧ (((Lit.int .i64 x.f1).wf = true))
theorem opens64 : Opens Tryz.prog 64 k64 V64 := opens_struct (g := fun x : S64 => (x.f0, x.f1)) Tryz.underlying64 (by kernel_rfl) (opensF_cons (opens_int Tryz.underlying3) rfl (by kernel_rfl) (opensF_one (opens_int Tryz.underlying3) rfl (by kernel_rfl))) (fun y => ⟨⟨y.1, y.2⟩, rfl⟩)
/-- What holds of every value of type 65. -/
def V65 (x : S65) : Prop := ((Lit.int .i64 x.f0).wf = true) ∧ (((Lit.int .i64 x.f1).wf = true) ∧ ((True)))
theorem opens65 : Opens Tryz.prog 65 k65 V65 := opens_struct (g := fun x : S65 => (x.f0, x.f1, x.f2)) Tryz.underlying65 (by kernel_rfl) (opensF_cons (opens_int Tryz.underlying3) rfl (by kernel_rfl) (opensF_cons (opens_int Tryz.underlying3) rfl (by kernel_rfl) (opensF_one (opens_bool Tryz.underlying4) rfl (by kernel_rfl)))) (fun y => ⟨⟨y.1, y.2.1, y.2.2⟩, rfl⟩)
/-- What holds of every value of type 66. -/
def V66 (x : S66) : Prop := (x.f0.size ≤ 9223372036854775807) ∧ (((Lit.int .i64 x.f1).wf = true))
theorem opens66 : Opens Tryz.prog 66 k66 V66 := opens_struct (g := fun x : S66 => (x.f0, x.f1)) Tryz.underlying66 (by kernel_rfl) (opensF_cons (opens_string Tryz.underlying9) rfl (by kernel_rfl) (opensF_one (opens_int Tryz.underlying3) rfl (by kernel_rfl))) (fun y => ⟨⟨y.1, y.2⟩, rfl⟩)
/-- What holds of every value of type 68. -/
def V68 (x : S68) : Prop := (V63 x.f0) ∧ ((V64 x.f1) ∧ ((V65 x.f2) ∧ ((V66 x.f3))))
theorem opens68 : Opens Tryz.prog 68 k68 V68 := opens_struct (g := fun x : S68 => (x.f0, x.f1, x.f2, x.f3)) Tryz.underlying68 (by kernel_rfl) (opensF_cons opens63 rfl (by kernel_rfl) (opensF_cons opens64 rfl (by kernel_rfl) (opensF_cons opens65 rfl (by kernel_rfl) (opensF_one opens66 rfl (by kernel_rfl))))) (fun y => ⟨⟨y.1, y.2.1, y.2.2.1, y.2.2.2⟩, rfl⟩)
/-- What holds of every value of type 70. -/
def V70 (x : S70) : Prop := (V68 x.f0) ∧ ((True) ∧ ((V68 x.f2)))
theorem opens70 : Opens Tryz.prog 70 k70 V70 := opens_struct (g := fun x : S70 => (x.f0, x.f1, x.f2)) Tryz.underlying70 (by kernel_rfl) (opensF_cons opens68 rfl (by kernel_rfl) (opensF_cons (opens_bool Tryz.underlying4) rfl (by kernel_rfl) (opensF_one opens68 rfl (by kernel_rfl)))) (fun y => ⟨⟨y.1, y.2.1, y.2.2⟩, rfl⟩)
/-- What holds of every value of type 114. -/
def V114 (x : S114) : Prop := ((Lit.int .i64 x.f0).wf = true) ∧ (((Lit.int .i64 x.f1).wf = true))
theorem opens114 : Opens Tryz.prog 114 k114 V114 := opens_struct (g := fun x : S114 => (x.f0, x.f1)) Tryz.underlying114 (by kernel_rfl) (opensF_cons (opens_int Tryz.underlying3) rfl (by kernel_rfl) (opensF_one (opens_int Tryz.underlying3) rfl (by kernel_rfl))) (fun y => ⟨⟨y.1, y.2⟩, rfl⟩)
/-- THE ONE PURE STATEMENT of laws_FnExactBrokenBy. -/
def laws_FnExactBrokenBy.Pure : Prop := ∀ (x0 : S70) (x1 : List (S114)), (V70 x0) → (x1.length ≤ 9223372036854775807 ∧ ∀ x_ ∈ x1, V114 x_) → ∃ k, laws_FnExactBrokenBy.f k x0.f0.f0.f0 x0.f0.f0.f1 x0.f0.f0.f2 x0.f0.f0.f3 x0.f0.f0.f4 x0.f0.f0.f5 x0.f0.f1.f0 x0.f0.f1.f1 x0.f0.f2.f0 x0.f0.f2.f1 x0.f0.f2.f2 x0.f0.f3.f0 x0.f0.f3.f1 x0.f1 x0.f2.f0.f0 x0.f2.f0.f1 x0.f2.f0.f2 x0.f2.f0.f3 x0.f2.f0.f4 x0.f2.f0.f5 x0.f2.f1.f0 x0.f2.f1.f1 x0.f2.f2.f0 x0.f2.f2.f1 x0.f2.f2.f2 x0.f2.f3.f0 x0.f2.f3.f1 x1 = some true
end Go.Proofs.YtcicpmhcmlfhbaaGreatDoor.PA
