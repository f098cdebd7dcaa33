/- The law FnExactStepDistance, plainly: for every two movements the program's and the reference's functions return the same number and the same bool. -/
import Derived.Test.YtadddkdfbmbagaaWalkFnExactStepDistance
import Derived.Test.YtadddkdfbmbagaaQStepDistance
namespace Go.Proofs.Ytadddkdfbmbagaa.Pure
open Go.RowKit Go.Proofs.Ytadddkdfbmbagaa.PA Go.Proofs.YtadddkdfbmbagaaW.PrintWords Go.Proofs.YtadddkdfbmbagaaW.PrintLast Go.Proofs.YtadddkdfbmbagaaW.PrintMore
theorem FnExactStepDistance : laws_FnExactStepDistance.Pure := by
  rintro ⟨s, n⟩ ⟨t, m⟩ ⟨hs, _⟩ ⟨ht, _⟩
  refine Ev.rounds (g := fun k => laws_FnExactStepDistance.f k s n t m) (r := true) ?_
  unfold laws_FnExactStepDistance.f
  by_cases h : (s.size : Int) ≤ 1048576
  · simp only [szMove_small s n 1048576 hs (by omega) (by omega) h, laws_toMove.f, Option.bind_some]
    refine Ev.congr (fun k => if_neg (by omega)) ?_
    by_cases h' : (t.size : Int) ≤ 1048576 - s.size
    · simp only [szMove_small t m (1048576 - (s.size : Int)) ht (by omega) (by omega) h', Option.bind_some]
      refine Ev.congr (fun k => if_neg (by omega)) ?_
      obtain ⟨⟨v0, v1⟩, hS, hI⟩ := StepDistance_same s n t m (by omega) (by omega)
      refine Ev.bind hS (Ev.bind hI ?_)
      exact Ev.congr (f := fun _ => some true) (fun k => by simp) (Ev.now _)
    · simp only [szMove_big t m (1048576 - (s.size : Int)) ht (by omega) (by omega) (by omega), Option.bind_some]
      exact Ev.congr (f := fun _ => some true) (fun k => by simp) (Ev.now _)
  · simp only [szMove_big s n 1048576 hs (by omega) (by omega) (by omega), Option.bind_some]
    exact Ev.congr (f := fun _ => some true) (fun k => by simp) (Ev.now _)
end Go.Proofs.Ytadddkdfbmbagaa.Pure
