/- The law FnExactNormalMove, plainly: for every movement the program's and the reference's functions return the same movement and the same bool. -/
import Derived.Test.YtndipmdabphgcaaWalkFnExactNormalMove
import Derived.Test.YtndipmdabphgcaaQNormalMove
namespace Go.Proofs.Ytndipmdabphgcaa.Pure
open Go.RowKit Go.Proofs.Ytndipmdabphgcaa.PA Go.Proofs.YtndipmdabphgcaaW.PrintWords Go.Proofs.YtndipmdabphgcaaW.PrintLast Go.Proofs.YtndipmdabphgcaaW.PrintMore
theorem FnExactNormalMove : laws_FnExactNormalMove.Pure := by
  rintro ⟨s, n⟩ ⟨hs, _⟩
  refine Ev.rounds (g := fun k => laws_FnExactNormalMove.f k s n) (r := true) ?_
  unfold laws_FnExactNormalMove.f
  by_cases h : (s.size : Int) ≤ 1048576
  · simp only [szMove_small s n 1048576 hs (by omega) (by omega) h, laws_toMove.f, Option.bind_some]
    refine Ev.congr (fun k => if_neg (by omega)) ?_
    refine Ev.bind (spec_NormalMove_ev s n (by omega)) (Ev.bind (impl_NormalMove_ev s n (by omega)) ?_)
    rw [eqMove_same]
    exact Ev.congr (f := fun _ => some true) (fun k => by simp) (Ev.now _)
  · simp only [szMove_big s n 1048576 hs (by omega) (by omega) (by omega), Option.bind_some]
    exact Ev.congr (f := fun _ => some true) (fun k => by simp) (Ev.now _)
end Go.Proofs.Ytndipmdabphgcaa.Pure
