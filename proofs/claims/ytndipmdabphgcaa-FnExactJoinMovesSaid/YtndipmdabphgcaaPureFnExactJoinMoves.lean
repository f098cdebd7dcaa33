/- The law FnExactJoinMoves, plainly: for every two movements the program's and the reference's functions return the same movement and the same bool. -/
import Derived.Test.YtndipmdabphgcaaWalkFnExactJoinMoves
import Derived.Test.YtndipmdabphgcaaQJoinMoves
namespace Go.Proofs.Ytndipmdabphgcaa.Pure
open Go.RowKit Go.Proofs.Ytndipmdabphgcaa.PA Go.Proofs.YtndipmdabphgcaaW.PrintWords Go.Proofs.YtndipmdabphgcaaW.PrintLast Go.Proofs.YtndipmdabphgcaaW.PrintMore
theorem FnExactJoinMoves : laws_FnExactJoinMoves.Pure := by
  rintro ⟨s, n⟩ ⟨t, m⟩ ⟨hs, _⟩ ⟨ht, _⟩
  refine Ev.rounds (g := fun k => laws_FnExactJoinMoves.f k s n t m) (r := true) ?_
  unfold laws_FnExactJoinMoves.f
  by_cases h : (s.size : Int) ≤ 1048576
  · simp only [szMove_small s n 1048576 hs (by omega) (by omega) h, laws_toMove.f, Option.bind_some]
    refine Ev.congr (fun k => if_neg (by omega)) ?_
    by_cases h' : (t.size : Int) ≤ 1048576 - s.size
    · simp only [szMove_small t m (1048576 - (s.size : Int)) ht (by omega) (by omega) h', Option.bind_some]
      refine Ev.congr (fun k => if_neg (by omega)) ?_
      refine Ev.bind (spec_JoinMoves_ev s n t m (by omega) (by omega)) (Ev.bind (impl_JoinMoves_ev s n t m (by omega) (by omega)) ?_)
      rw [eqMove_same]
      exact Ev.congr (f := fun _ => some true) (fun k => by simp) (Ev.now _)
    · simp only [szMove_big t m (1048576 - (s.size : Int)) ht (by omega) (by omega) (by omega), Option.bind_some]
      exact Ev.congr (f := fun _ => some true) (fun k => by simp) (Ev.now _)
  · simp only [szMove_big s n 1048576 hs (by omega) (by omega) (by omega), Option.bind_some]
    exact Ev.congr (f := fun _ => some true) (fun k => by simp) (Ev.now _)
end Go.Proofs.Ytndipmdabphgcaa.Pure
