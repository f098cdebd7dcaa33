/- The law FnExactIsDesk, plainly: for every desk the program's and the reference's functions return the same bool. -/
import Derived.Test.YtmmpnigbfiebbaaWalkFnExactIsDesk
import Derived.Test.YtmmpnigbfiebbaaPAx15
import Derived.Test.YtmmpnigbfiebbaaQDesk
namespace Go.Proofs.Ytmmpnigbfiebbaa.Pure
open Go.RowKit Go.Proofs.Ytmmpnigbfiebbaa.PA Go.Proofs.YtmmpnigbfiebbaaW.PrintWords Go.Proofs.YtmmpnigbfiebbaaW.PrintLast Go.Proofs.YtmmpnigbfiebbaaW.PrintMore
theorem FnExactIsDesk : laws_FnExactIsDesk.Pure := by
  rintro ⟨a, b, c⟩ hV
  refine Ev.rounds (g := fun k => laws_FnExactIsDesk.f k a b c) (r := true) ?_
  unfold laws_FnExactIsDesk.f
  obtain ⟨⟨hla, hVa⟩, ⟨hlb, hVb⟩, hlc, hVc⟩ := hV
  obtain ⟨r, hr, hq⟩ := szDesk_ev a b c hVa hla (fun x hx => ⟨(hVb x hx).2.2.1, (hVb x hx).2.2.2⟩) hlb (fun x hx => ⟨(hVc x hx).2.2.1, (hVc x hx).2.2.2⟩) hlc 1048576 (by omega) (by omega)
  refine Ev.bind hr ?_
  rcases hq with hn | ⟨h0, _, hD⟩
  · exact Ev.congr (f := fun _ => some true) (fun k => if_pos hn) (Ev.now _)
  refine Ev.congr (fun k => if_neg (by omega)) ?_
  have hT := toDesk_ev a b c hD.1.1 hD.2.1.1 hD.2.2.1
  have hK := dok_of hD
  have hE := eqDesk_ev a (b.map tdE) (c.map tdE) (by have := hK.1.1; omega) (by have := hK.2.1.1; omega) (by have := hK.2.2.1; omega)
  have hS : Ev (fun k => spec_IsDesk.f k a (b.map tdE) (c.map tdE)) (gdV a (b.map tdE) (c.map tdE)) := by
    unfold spec_IsDesk.f
    exact Ev.bind (spec_unGood_ev hK) (Ev.now _)
  refine Ev.bind hT (Ev.bind hS (Ev.bind hT (Ev.bind (impl_IsDesk_ev hK) ?_)))
  simp only [bne_self_eq_false, Bool.false_eq_true, if_false]
  refine Ev.bind hT (Ev.bind hE ?_)
  exact Ev.congr (f := fun _ => some true) (fun k => if_pos rfl) (Ev.now _)
end Go.Proofs.Ytmmpnigbfiebbaa.Pure
