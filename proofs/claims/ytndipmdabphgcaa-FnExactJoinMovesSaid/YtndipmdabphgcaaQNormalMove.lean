/- The plain law of normal forms and joined movements. -/
import Derived.Test.YtndipmdabphgcaaPAx4
import Derived.Test.YtndipmdabphgcaaQMoveOf
import Derived.Test.YtndipmdabphgcaaQMoveLaws
namespace Go.Proofs.Ytndipmdabphgcaa.PA
open Go.RowKit Go.Proofs.YtndipmdabphgcaaW.PrintWords Go.Proofs.YtndipmdabphgcaaW.PrintLast Go.Proofs.YtndipmdabphgcaaW.PrintMore
set_option linter.unusedVariables false
set_option linter.unusedSimpArgs false
def nmV (s : ByteArray) (n : Int) : ByteArray × Int × Bool := if mvOK s n = true then ((moV (mvSt s n)).1, (moV (mvSt s n)).2.1, true) else (⟨#[]⟩, 0, false)
theorem spec_mvNormal_ev {s : ByteArray} {n : Int} (h : mvOK s n = true) : Ev (fun k => spec_mvNormal.f k s n) ((moV (mvSt s n)).1, (moV (mvSt s n)).2.1) := by
  unfold spec_mvNormal.f
  have hz := mvSt_size h
  exact Ev.bind (spec_mvAll_ev h) (Ev.bind (spec_mvOf_ev _ (by omega)) (Ev.now _))
theorem spec_NormalMove_ev (s : ByteArray) (n : Int) (hs : s.size ≤ 1048576) : Ev (fun k => spec_NormalMove.f k s n) (nmV s n) := by
  unfold spec_NormalMove.f nmV
  refine Ev.bind (spec_mvGood_ev s n (by omega)) ?_
  by_cases h : mvOK s n = true
  · simp only [h, if_true]
    exact Ev.bind (spec_mvNormal_ev h) (Ev.now _)
  · simp only [h, if_false]
    exact Ev.now _
theorem impl_normal {s : ByteArray} {n : Int} (h : mvOK s n = true) : impl_Move_normal.f s n = some ((moV (mvSt s n)).1, (moV (mvSt s n)).2.1) := by
  unfold impl_Move_normal.f
  have hz := mvSt_size h
  rw [impl_all h, Option.bind_some, impl_moveOf_eq _ (by omega), Option.bind_some]
theorem impl_NormalMove_ev (s : ByteArray) (n : Int) (hs : s.size ≤ 1048576) : Ev (fun k => impl_NormalMove.f k s n) (nmV s n) := by
  unfold impl_NormalMove.f nmV
  refine Ev.bind (impl_IsMove_ev s n (by omega)) ?_
  by_cases h : mvOK s n = true
  · simp only [h, if_true, impl_normal h]
    exact Ev.now _
  · simp only [h, if_false]
    exact Ev.now _
theorem eqMove_same (s : ByteArray) (n : Int) : laws_eqMove.f s n s n = some true := by
  unfold laws_eqMove.f
  rw [if_pos rfl, if_pos rfl]
end Go.Proofs.Ytndipmdabphgcaa.PA
