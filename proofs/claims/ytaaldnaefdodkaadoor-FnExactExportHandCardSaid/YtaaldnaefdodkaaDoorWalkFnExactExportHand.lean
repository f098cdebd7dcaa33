/- The pure statement of FnExactExportHand, and how its arguments are opened. -/
import Derived.Test.YtaaldnaefdodkaaDoorPAx2
import Derived.Test.YtaaldnaefdodkaaDoorOpens
namespace Go.Proofs.YtaaldnaefdodkaaDoor.PA
open Go.RowKit Go.Proofs.YtaaldnaefdodkaaDoorW.PrintWords Go.Proofs.YtaaldnaefdodkaaDoorW.PrintLast Go.Proofs.YtaaldnaefdodkaaDoorW.PrintMore
set_option linter.unusedVariables false
/-- What holds of every value of type 23. -/
def V23 (x : S23) : Prop := ((Lit.int .i64 x.f0).wf = true) ∧ (((Lit.int .i64 x.f1).wf = true) ∧ (((Lit.int .i64 x.f2).wf = true) ∧ (((Lit.int .i64 x.f3).wf = true) ∧ (((Lit.int .i64 x.f4).wf = true) ∧ ((True))))))
theorem opens23 : Opens Tryd.prog 23 k23 V23 := opens_struct (g := fun x : S23 => (x.f0, x.f1, x.f2, x.f3, x.f4, x.f5)) Tryd.underlying23 (by kernel_rfl) (opensF_cons (opens_int Tryd.underlying3) rfl (by kernel_rfl) (opensF_cons (opens_int Tryd.underlying3) rfl (by kernel_rfl) (opensF_cons (opens_int Tryd.underlying3) rfl (by kernel_rfl) (opensF_cons (opens_int Tryd.underlying3) rfl (by kernel_rfl) (opensF_cons (opens_int Tryd.underlying3) rfl (by kernel_rfl) (opensF_one (opens_bool Tryd.underlying4) rfl (by kernel_rfl))))))) (fun y => ⟨⟨y.1, y.2.1, y.2.2.1, y.2.2.2.1, y.2.2.2.2.1, y.2.2.2.2.2⟩, rfl⟩)
/-- What holds of every value of type 25. -/
def V25 (x : S25) : Prop := ((Lit.int .i64 x.f0).wf = true) ∧ (((Lit.int .i64 x.f1).wf = true))
theorem opens25 : Opens Tryd.prog 25 k25 V25 := opens_struct (g := fun x : S25 => (x.f0, x.f1)) Tryd.underlying25 (by kernel_rfl) (opensF_cons (opens_int Tryd.underlying3) rfl (by kernel_rfl) (opensF_one (opens_int Tryd.underlying3) rfl (by kernel_rfl))) (fun y => ⟨⟨y.1, y.2⟩, rfl⟩)
/-- What holds of every value of type 27. -/
def V27 (x : S27) : Prop := ((Lit.int .i64 x.f0).wf = true) ∧ (((Lit.int .i64 x.f1).wf = true) ∧ ((True)))
theorem opens27 : Opens Tryd.prog 27 k27 V27 := opens_struct (g := fun x : S27 => (x.f0, x.f1, x.f2)) Tryd.underlying27 (by kernel_rfl) (opensF_cons (opens_int Tryd.underlying3) rfl (by kernel_rfl) (opensF_cons (opens_int Tryd.underlying3) rfl (by kernel_rfl) (opensF_one (opens_bool Tryd.underlying4) rfl (by kernel_rfl)))) (fun y => ⟨⟨y.1, y.2.1, y.2.2⟩, rfl⟩)
/-- What holds of every value of type 29. -/
def V29 (x : S29) : Prop := (x.f0.size ≤ 9223372036854775807) ∧ (((Lit.int .i64 x.f1).wf = true))
theorem opens29 : Opens Tryd.prog 29 k29 V29 := opens_struct (g := fun x : S29 => (x.f0, x.f1)) Tryd.underlying29 (by kernel_rfl) (opensF_cons (opens_string Tryd.underlying9) rfl (by kernel_rfl) (opensF_one (opens_int Tryd.underlying3) rfl (by kernel_rfl))) (fun y => ⟨⟨y.1, y.2⟩, rfl⟩)
/-- What holds of every value of type 31. -/
def V31 (x : S31) : Prop := (V23 x.f0) ∧ ((V25 x.f1) ∧ ((V27 x.f2) ∧ ((V29 x.f3))))
theorem opens31 : Opens Tryd.prog 31 k31 V31 := opens_struct (g := fun x : S31 => (x.f0, x.f1, x.f2, x.f3)) Tryd.underlying31 (by kernel_rfl) (opensF_cons opens23 rfl (by kernel_rfl) (opensF_cons opens25 rfl (by kernel_rfl) (opensF_cons opens27 rfl (by kernel_rfl) (opensF_one opens29 rfl (by kernel_rfl))))) (fun y => ⟨⟨y.1, y.2.1, y.2.2.1, y.2.2.2⟩, rfl⟩)
/-- THE ONE PURE STATEMENT of laws_FnExactExportHand. -/
def laws_FnExactExportHand.Pure : Prop := ∀ (x0 : S31), (V31 x0) → ∃ k, laws_FnExactExportHand.f k x0.f0.f0 x0.f0.f1 x0.f0.f2 x0.f0.f3 x0.f0.f4 x0.f0.f5 x0.f1.f0 x0.f1.f1 x0.f2.f0 x0.f2.f1 x0.f2.f2 x0.f3.f0 x0.f3.f1 = some true
end Go.Proofs.YtaaldnaefdodkaaDoor.PA
