/- The law FnExactInverseEdit, plainly: for every edit the program's and the reference's functions return the same edit and the same bool. -/
import Derived.Test.YtmmpnigbfiebbaaWalkFnExactInverseEdit
import Derived.Test.YtmmpnigbfiebbaaQInverseEdit
namespace Go.Proofs.Ytmmpnigbfiebbaa.Pure
open Go.RowKit Go.Proofs.Ytmmpnigbfiebbaa.PA Go.Proofs.YtmmpnigbfiebbaaW.PrintWords Go.Proofs.YtmmpnigbfiebbaaW.PrintLast Go.Proofs.YtmmpnigbfiebbaaW.PrintMore
theorem FnExactInverseEdit : laws_FnExactInverseEdit.Pure := by
  rintro ⟨a0, a1, a2, a3⟩ hV
  have h2 : a2.size ≤ 9223372036854775807 := by first | exact hV.2.2.1 | exact hV.1 | exact hV.2.1
  have h3 : a3.size ≤ 9223372036854775807 := by first | exact hV.2.2.2.1 | exact hV.2.2.2 | exact hV.2.2 | exact hV.2
  refine Ev.rounds (g := fun k => laws_FnExactInverseEdit.f k a0 a1 a2 a3) (r := true) ?_
  unfold laws_FnExactInverseEdit.f
  by_cases h : (a2.size : Int) + (a3.size : Int) ≤ 1048576
  · simp only [szDeskEdit_small a0 a1 a2 a3 1048576 h2 h3 (by omega) (by omega) h, laws_toDeskEdit.f, Option.bind_some]
    refine Ev.congr (fun k => if_neg (by omega)) ?_
    refine Ev.bind (spec_InverseEdit_ev a0 a1 a2 a3 (by omega) (by omega)) (Ev.bind (impl_InverseEdit_ev a0 a1 a2 a3 (by omega) (by omega)) ?_)
    rw [eqDeskEdit_same]
    exact Ev.congr (f := fun _ => some true) (fun k => by simp) (Ev.now _)
  · simp only [szDeskEdit_big a0 a1 a2 a3 1048576 h2 h3 (by omega) (by omega) (by omega), Option.bind_some]
    exact Ev.congr (f := fun _ => some true) (fun k => by simp) (Ev.now _)
end Go.Proofs.Ytmmpnigbfiebbaa.Pure
