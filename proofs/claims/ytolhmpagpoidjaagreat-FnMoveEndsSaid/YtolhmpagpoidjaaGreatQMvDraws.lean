/- What the law FnMoveEnds draws. -/
import Derived.Test.YtolhmpagpoidjaaGreatPAx1
import Derived.Test.YtolhmpagpoidjaaGreatQEvs
import Derived.Test.YtolhmpagpoidjaaGreatQMoveDR
namespace Go.Proofs.YtolhmpagpoidjaaGreat.PA
open Go.RowKit Go.Proofs.YtolhmpagpoidjaaGreatW.PrintWords Go.Proofs.YtolhmpagpoidjaaGreatW.PrintLast Go.Proofs.YtolhmpagpoidjaaGreatW.PrintMore
set_option linter.unusedVariables false
set_option linter.unusedSimpArgs false
theorem drawIs_d {c : List Int} (h : Cur c 0 0) : Evs (fun k => spec_DrawIsMove.f k c) (fun r => r.1.size ≤ 20) := by
  unfold spec_DrawIsMove.f
  exact Evs.last (anyMove_d 0 h (by decide)) (fun a ha => ha.1)
theorem drawEnd_d {c : List Int} (h : Cur c 0 0) : Evs (fun k => spec_DrawEndOfMove.f k c) (fun r => r.1.size ≤ 20) := by
  unfold spec_DrawEndOfMove.f
  exact Evs.last (drawIs_d h) (fun a ha => ha)
theorem drawLongest_d {c : List Int} (h : Cur c 0 0) : Evs (fun k => spec_DrawLongestStraight.f k c) (fun r => r.1.size ≤ 20) := by
  unfold spec_DrawLongestStraight.f
  exact Evs.last (drawIs_d h) (fun a ha => ha)
theorem drawJoin_d {c : List Int} (h : Cur c 0 0) : Evs (fun k => spec_DrawJoinMoves.f k c) (fun r => r.1.size ≤ 20 ∧ r.2.2.1.size ≤ 20) := by
  unfold spec_DrawJoinMoves.f
  refine Evs.bind (anyMove_d 0 h (by decide)) ?_
  rintro ⟨a, n, c1, i1, s1⟩ ⟨ha, rfl, h1⟩
  simp only [] at ha h1
  refine Evs.bind (one_d s1 h1 (by decide) 3) ?_
  rintro ⟨b, c2, i2, s2⟩ ⟨rfl, h2, _⟩
  exact Evs.ite (fun _ => Evs.now ⟨ha, ha⟩) (fun _ => Evs.last (anyMove_d s2 h2 (by decide)) (fun b hb => ⟨ha, hb.1⟩))
end Go.Proofs.YtolhmpagpoidjaaGreat.PA
