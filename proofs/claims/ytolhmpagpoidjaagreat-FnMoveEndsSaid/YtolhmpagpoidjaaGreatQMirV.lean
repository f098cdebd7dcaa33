/- The mirrored movement, on both sides. -/
import Derived.Test.YtolhmpagpoidjaaGreatPAx1
import Derived.Test.YtolhmpagpoidjaaGreatQEndsM
namespace Go.Proofs.YtolhmpagpoidjaaGreat.PA
open Go.RowKit Go.Proofs.YtolhmpagpoidjaaGreatW.PrintWords Go.Proofs.YtolhmpagpoidjaaGreatW.PrintLast Go.Proofs.YtolhmpagpoidjaaGreatW.PrintMore
set_option linter.unusedVariables false
set_option linter.unusedSimpArgs false
def mmV (s : ByteArray) (n : Int) : ByteArray × Int × Bool := if mvOK s n = true then (mirS s, n, true) else (⟨#[]⟩, 0, false)
theorem spec_MirrorMove_ev (s : ByteArray) (n : Int) (hs : s.size ≤ 1000000) : Ev (fun k => spec_MirrorMove.f k s n) (mmV s n) := by
  unfold spec_MirrorMove.f mmV
  refine Ev.bind (spec_mvGood_ev s n (by omega)) ?_
  by_cases h : mvOK s n = true
  · simp only [if_pos h]
    exact Ev.bind (spec_mirror_ev s n hs) (Ev.now _)
  · simp only [if_neg h]; exact Ev.now _
theorem impl_MirrorMove_ev (s : ByteArray) (n : Int) (hs : s.size ≤ 1000000) : Ev (fun k => impl_MirrorMove.f k s n) (mmV s n) := by
  unfold impl_MirrorMove.f mmV
  refine Ev.bind (impl_IsMove_ev s n (by omega)) ?_
  by_cases h : mvOK s n = true
  · simp only [if_pos h, impl_mirror s n hs, Option.bind_some]
    exact Ev.now _
  · simp only [if_neg h]; exact Ev.now _
theorem mmV_twice {s : ByteArray} {n : Int} (h : mvOK s n = true) : mmV (mirS s) n = (s, n, true) := by
  unfold mmV
  rw [if_pos (mirS_ok h), mirS_twice (mvOK_dirs h)]
end Go.Proofs.YtolhmpagpoidjaaGreat.PA
