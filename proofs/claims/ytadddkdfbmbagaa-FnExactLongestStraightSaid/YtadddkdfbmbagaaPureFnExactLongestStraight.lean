/- The law FnExactLongestStraight, plainly: for every movement the program's and the reference's functions return the same letter, the same number and the same bool. -/
import Derived.Test.YtadddkdfbmbagaaWalkFnExactLongestStraight
import Derived.Test.YtadddkdfbmbagaaQLongest
namespace Go.Proofs.Ytadddkdfbmbagaa.Pure
open Go.RowKit Go.Proofs.Ytadddkdfbmbagaa.PA Go.Proofs.YtadddkdfbmbagaaW.PrintWords Go.Proofs.YtadddkdfbmbagaaW.PrintLast Go.Proofs.YtadddkdfbmbagaaW.PrintMore
theorem FnExactLongestStraight : laws_FnExactLongestStraight.Pure := by
  rintro ⟨s, n⟩ ⟨hs, _⟩
  refine Ev.rounds (g := fun k => laws_FnExactLongestStraight.f k s n) (r := true) ?_
  unfold laws_FnExactLongestStraight.f
  by_cases h : (s.size : Int) ≤ 1048576
  · simp only [szMove_small s n 1048576 hs (by omega) (by omega) h, laws_toMove.f, Option.bind_some]
    refine Ev.congr (fun k => if_neg (by omega)) ?_
    obtain ⟨⟨v0, v1, v2⟩, hS, hI⟩ := longest_same s n (by omega)
    refine Ev.bind hS (Ev.bind hI ?_)
    exact Ev.congr (f := fun _ => some true) (fun k => by simp) (Ev.now _)
  · simp only [szMove_big s n 1048576 hs (by omega) (by omega) (by omega), Option.bind_some]
    exact Ev.congr (f := fun _ => some true) (fun k => by simp) (Ev.now _)
end Go.Proofs.Ytadddkdfbmbagaa.Pure
