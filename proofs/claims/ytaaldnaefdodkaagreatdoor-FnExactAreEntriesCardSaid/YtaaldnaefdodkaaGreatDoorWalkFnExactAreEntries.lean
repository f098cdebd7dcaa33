/- The pure statement of FnExactAreEntries, and how its arguments are opened. -/
import Derived.Test.YtaaldnaefdodkaaGreatDoorPAx9
import Derived.Test.YtaaldnaefdodkaaGreatDoorOpens
namespace Go.Proofs.YtaaldnaefdodkaaGreatDoor.PA
open Go.RowKit Go.Proofs.YtaaldnaefdodkaaGreatDoorW.PrintWords Go.Proofs.YtaaldnaefdodkaaGreatDoorW.PrintLast Go.Proofs.YtaaldnaefdodkaaGreatDoorW.PrintMore
set_option linter.unusedVariables false
/-- What holds of every value of type 51. -/
def V51 (x : S51) : Prop := ((Lit.int .i64 x.f0).wf = true) ∧ (((Lit.int .i64 x.f1).wf = true) ∧ (((Lit.int .i64 x.f2).wf = true) ∧ (((Lit.int .i64 x.f3).wf = true) ∧ (((Lit.int .i64 x.f4).wf = true) ∧ ((True))))))
theorem opens51 : Opens Tryz.prog 51 k51 V51 := opens_struct (g := fun x : S51 => (x.f0, x.f1, x.f2, x.f3, x.f4, x.f5)) Tryz.underlying51 (by kernel_rfl) (opensF_cons (opens_int Tryz.underlying3) rfl (by kernel_rfl) (opensF_cons (opens_int Tryz.underlying3) rfl (by kernel_rfl) (opensF_cons (opens_int Tryz.underlying3) rfl (by kernel_rfl) (opensF_cons (opens_int Tryz.underlying3) rfl (by kernel_rfl) (opensF_cons (opens_int Tryz.underlying3) rfl (by kernel_rfl) (opensF_one (opens_bool Tryz.underlying4) rfl (by kernel_rfl))))))) (fun y => ⟨⟨y.1, y.2.1, y.2.2.1, y.2.2.2.1, y.2.2.2.2.1, y.2.2.2.2.2⟩, rfl⟩)
/-- What holds of every value of type 53. -/
def V53 (x : S53) : Prop := ((Lit.int .i64 x.f0).wf = true) ∧ (((Lit.int .i64 x.f1).wf = true))
theorem opens53 : Opens Tryz.prog 53 k53 V53 := opens_struct (g := fun x : S53 => (x.f0, x.f1)) Tryz.underlying53 (by kernel_rfl) (opensF_cons (opens_int Tryz.underlying3) rfl (by kernel_rfl) (opensF_one (opens_int Tryz.underlying3) rfl (by kernel_rfl))) (fun y => ⟨⟨y.1, y.2⟩, rfl⟩)
/-- What holds of every value of type 55. -/
def V55 (x : S55) : Prop := ((Lit.int .i64 x.f0).wf = true) ∧ (((Lit.int .i64 x.f1).wf = true) ∧ ((True)))
theorem opens55 : Opens Tryz.prog 55 k55 V55 := opens_struct (g := fun x : S55 => (x.f0, x.f1, x.f2)) Tryz.underlying55 (by kernel_rfl) (opensF_cons (opens_int Tryz.underlying3) rfl (by kernel_rfl) (opensF_cons (opens_int Tryz.underlying3) rfl (by kernel_rfl) (opensF_one (opens_bool Tryz.underlying4) rfl (by kernel_rfl)))) (fun y => ⟨⟨y.1, y.2.1, y.2.2⟩, rfl⟩)
/-- What holds of every value of type 56. -/
def V56 (x : S56) : Prop := (x.f0.size ≤ 9223372036854775807) ∧ (((Lit.int .i64 x.f1).wf = true))
theorem opens56 : Opens Tryz.prog 56 k56 V56 := opens_struct (g := fun x : S56 => (x.f0, x.f1)) Tryz.underlying56 (by kernel_rfl) (opensF_cons (opens_string Tryz.underlying9) rfl (by kernel_rfl) (opensF_one (opens_int Tryz.underlying3) rfl (by kernel_rfl))) (fun y => ⟨⟨y.1, y.2⟩, rfl⟩)
/-- What holds of every value of type 58. -/
def V58 (x : S58) : Prop := (V51 x.f0) ∧ ((V53 x.f1) ∧ ((V55 x.f2) ∧ ((V56 x.f3))))
theorem opens58 : Opens Tryz.prog 58 k58 V58 := opens_struct (g := fun x : S58 => (x.f0, x.f1, x.f2, x.f3)) Tryz.underlying58 (by kernel_rfl) (opensF_cons opens51 rfl (by kernel_rfl) (opensF_cons opens53 rfl (by kernel_rfl) (opensF_cons opens55 rfl (by kernel_rfl) (opensF_one opens56 rfl (by kernel_rfl))))) (fun y => ⟨⟨y.1, y.2.1, y.2.2.1, y.2.2.2⟩, rfl⟩)
/-- What holds of every value of type 60. -/
def V60 (x : S60) : Prop := (V58 x.f0) ∧ ((True) ∧ ((V58 x.f2)))
theorem opens60 : Opens Tryz.prog 60 k60 V60 := opens_struct (g := fun x : S60 => (x.f0, x.f1, x.f2)) Tryz.underlying60 (by kernel_rfl) (opensF_cons opens58 rfl (by kernel_rfl) (opensF_cons (opens_bool Tryz.underlying4) rfl (by kernel_rfl) (opensF_one opens58 rfl (by kernel_rfl)))) (fun y => ⟨⟨y.1, y.2.1, y.2.2⟩, rfl⟩)
/-- What holds of every value of type 62. -/
def V62 (x : S62) : Prop := (x.f0.size ≤ 9223372036854775807) ∧ ((V60 x.f1) ∧ (((Lit.int .i64 x.f2).wf = true) ∧ (((Lit.int .i64 x.f3).wf = true))))
theorem opens62 : Opens Tryz.prog 62 k62 V62 := opens_struct (g := fun x : S62 => (x.f0, x.f1, x.f2, x.f3)) Tryz.underlying62 (by kernel_rfl) (opensF_cons (opens_string Tryz.underlying9) rfl (by kernel_rfl) (opensF_cons opens60 rfl (by kernel_rfl) (opensF_cons (opens_int Tryz.underlying3) rfl (by kernel_rfl) (opensF_one (opens_int Tryz.underlying3) rfl (by kernel_rfl))))) (fun y => ⟨⟨y.1, y.2.1, y.2.2.1, y.2.2.2⟩, rfl⟩)
/-- THE ONE PURE STATEMENT of laws_FnExactAreEntries. -/
def laws_FnExactAreEntries.Pure : Prop := ∀ (x0 : List (S62)), (x0.length ≤ 9223372036854775807 ∧ ∀ x_ ∈ x0, V62 x_) → ∃ k, laws_FnExactAreEntries.f k x0 = some true
end Go.Proofs.YtaaldnaefdodkaaGreatDoor.PA
