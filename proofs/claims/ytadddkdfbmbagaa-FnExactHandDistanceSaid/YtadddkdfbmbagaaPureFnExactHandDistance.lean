/- The law FnExactHandDistance, plainly: for every two hands the program's and the reference's functions return the same number and the same bool. -/
import Derived.Test.YtadddkdfbmbagaaWalkFnExactHandDistance
import Derived.Test.YtadddkdfbmbagaaPAx5
import Derived.Test.YtadddkdfbmbagaaPAx6
import Derived.Test.YtadddkdfbmbagaaQHandDist
namespace Go.Proofs.Ytadddkdfbmbagaa.Pure
open Go.RowKit Go.Proofs.Ytadddkdfbmbagaa.PA Go.Proofs.YtadddkdfbmbagaaW.PrintWords Go.Proofs.YtadddkdfbmbagaaW.PrintLast Go.Proofs.YtadddkdfbmbagaaW.PrintMore
theorem FnExactHandDistance : laws_FnExactHandDistance.Pure := by
  rintro ⟨⟨t, i, m, r, l, s⟩, ⟨p, f⟩, ⟨g, d, c⟩, ⟨b, n⟩⟩ ⟨⟨t', i', m', r', l', s'⟩, ⟨p', f'⟩, ⟨g', d', c'⟩, ⟨b', n'⟩⟩ hV hV'
  have hb : b.size ≤ 9223372036854775807 := hV.2.2.2.1
  have hb' : b'.size ≤ 9223372036854775807 := hV'.2.2.2.1
  refine Ev.rounds (g := fun k => laws_FnExactHandDistance.f k t i m r l s p f g d c b n t' i' m' r' l' s' p' f' g' d' c' b' n') (r := true) ?_
  unfold laws_FnExactHandDistance.f
  simp only [laws_szHand.f]
  by_cases h : (b.size : Int) ≤ 1048576
  · rw [szMove_small b n 1048576 hb (by omega) (by omega) h]
    simp only [Option.bind_some]
    have e1 : ¬ (1048576 - (b.size : Int) < 0) := by omega
    simp only [if_neg e1, Option.bind_some]
    by_cases h' : (b'.size : Int) ≤ 1048576 - (b.size : Int)
    · rw [szMove_small b' n' (1048576 - (b.size : Int)) hb' (by omega) (by omega) h']
      have e2 : ¬ (1048576 - (b.size : Int) - (b'.size : Int) < 0) := by omega
      simp only [Option.bind_some, if_neg e2, laws_toHand.f, laws_toShape.f, laws_toOrient.f, laws_toPlace.f, laws_toMove.f]
      obtain ⟨⟨v0, v1⟩, hS, hI⟩ := HandDistance_same t i m r l s p f g d c b n t' i' m' r' l' s' p' f' g' d' c' b' n' (by omega) (by omega)
      refine Ev.bind hS (Ev.bind hI ?_)
      exact Ev.congr (f := fun _ => some true) (fun k => by simp) (Ev.now _)
    · rw [szMove_big b' n' (1048576 - (b.size : Int)) hb' (by omega) (by omega) (by omega)]
      exact Ev.congr (f := fun _ => some true) (fun k => by simp) (Ev.now _)
  · rw [szMove_big b n 1048576 hb (by omega) (by omega) (by omega)]
    exact Ev.congr (f := fun _ => some true) (fun k => by simp) (Ev.now _)
end Go.Proofs.Ytadddkdfbmbagaa.Pure
