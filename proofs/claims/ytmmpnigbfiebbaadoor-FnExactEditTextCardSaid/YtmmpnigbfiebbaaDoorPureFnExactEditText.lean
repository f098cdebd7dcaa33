/- The law FnExactEditText, plainly: for every edit the program's and the reference's functions return the same text and the same bool. -/
import Derived.Test.YtmmpnigbfiebbaaDoorWalkFnExactEditText
import Derived.Test.YtmmpnigbfiebbaaDoorPAx1
import Derived.Test.YtmmpnigbfiebbaaDoorQEditText
import Derived.Test.YtmmpnigbfiebbaaDoorQEditSz
namespace Go.Proofs.YtmmpnigbfiebbaaDoor.Pure
open Go.RowKit Go.Proofs.YtmmpnigbfiebbaaDoor.PA Go.Proofs.YtmmpnigbfiebbaaDoorW.PrintWords Go.Proofs.YtmmpnigbfiebbaaDoorW.PrintLast Go.Proofs.YtmmpnigbfiebbaaDoorW.PrintMore
theorem FnExactEditText : laws_FnExactEditText.Pure := by
  rintro ⟨a0, a1, a2, a3⟩ ⟨_, _, h2, h3⟩
  refine Ev.rounds (g := fun k => laws_FnExactEditText.f k a0 a1 a2 a3) (r := true) ?_
  unfold laws_FnExactEditText.f
  by_cases h : (a2.size : Int) + (a3.size : Int) ≤ 1048576
  · rw [szDeskEdit_small a0 a1 a2 a3 1048576 h2 h3 (by omega) (by omega) h]
    simp only [Option.bind_some, laws_toDeskEdit.f]
    refine Ev.congr (fun k => if_neg (by omega)) ?_
    obtain ⟨⟨v0, v1⟩, hS, hI⟩ := EditText_same a0 a1 a2 a3 (by omega) (by omega)
    refine Ev.bind hS (Ev.bind hI ?_)
    exact Ev.congr (f := fun _ => some true) (fun k => by simp) (Ev.now _)
  · rw [szDeskEdit_big a0 a1 a2 a3 1048576 h2 h3 (by omega) (by omega) (by omega)]
    exact Ev.congr (f := fun _ => some true) (fun k => by simp) (Ev.now _)
end Go.Proofs.YtmmpnigbfiebbaaDoor.Pure
