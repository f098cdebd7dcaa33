/- The law FnExactStartDesk, plainly: for every list of items the program's and the reference's functions return the same desk and the same bool; the lists are new, and the argument stays. -/
import Derived.Test.YtmmpnigbfiebbaaWalkFnExactStartDesk
import Derived.Test.YtmmpnigbfiebbaaQStartDesk
namespace Go.Proofs.Ytmmpnigbfiebbaa.Pure
open Go.RowKit Go.Proofs.Ytmmpnigbfiebbaa.PA Go.Proofs.YtmmpnigbfiebbaaW.PrintWords Go.Proofs.YtmmpnigbfiebbaaW.PrintLast Go.Proofs.YtmmpnigbfiebbaaW.PrintMore
theorem FnExactStartDesk : laws_FnExactStartDesk.Pure := by
  rintro l ⟨hlen, hV⟩
  refine Ev.rounds (g := fun k => laws_FnExactStartDesk.f k l) (r := true) ?_
  unfold laws_FnExactStartDesk.f
  obtain ⟨r, hr, hq⟩ := szStr_ev l hV hlen 1048576 (by omega) (by omega)
  refine Ev.bind hr ?_
  rcases hq with rfl | ⟨h0, _, hl, hs⟩
  · exact Ev.congr (f := fun _ => some true) (fun k => if_pos (by omega)) (Ev.now _)
  refine Ev.congr (fun k => if_neg (by omega)) ?_
  have hI := impl_StartDesk_ev l hl hs
  refine Ev.bind (toStr_ev l hl) (Ev.bind (spec_StartDesk_ev l hl hs) (Ev.bind (toStr_ev l hl) (Ev.bind hI ?_)))
  have hd := sdV_len l hl
  generalize sdV l = v at hI hd ⊢
  obtain ⟨a, b, c, ok⟩ := v
  obtain ⟨ha, hb, hc⟩ := hd
  simp only [] at ha hb hc ⊢
  have hE := eqDesk_ev a b c (by omega) (by omega) (by omega)
  refine Ev.bind hE ?_
  simp only [if_true, bne_self_eq_false]
  refine Ev.shift ?_
  simp only [laws_FnExactStartDesk.j0, Bool.false_eq_true, if_false]
  refine Ev.bind (toStr_ev l hl) (Ev.bind (eqStr_ev l (by omega)) ?_)
  simp only [if_true]
  refine Ev.bind (mkStr_ev l 1 (by omega) (by omega) hl) ?_
  refine Ev.congr (fun k => if_neg (by simp only []; omega)) ?_
  refine Ev.bind hE ?_
  simp only [if_true, bne_self_eq_false]
  refine Ev.shift ?_
  simp only [laws_FnExactStartDesk.j1, Bool.false_eq_true, if_false]
  obtain ⟨m, a', b', c', hm, e1, e2⟩ := mkDesk_ev a b c ha hb hc
  refine Ev.bind e1 (Ev.bind e2 ?_)
  refine Ev.congr (fun k => by rw [if_neg (by omega), if_pos rfl]) ?_
  refine Ev.bind (toStr_ev l hl) (Ev.bind hI ?_)
  refine Ev.bind hE ?_
  simp only [if_true, bne_self_eq_false]
  refine Ev.shift ?_
  simp only [laws_FnExactStartDesk.j2, Bool.false_eq_true, if_false]
  refine Ev.bind e2 ?_
  exact Ev.congr (f := fun _ => some true) (fun k => by rw [if_neg (by omega), if_pos rfl]) (Ev.now _)
end Go.Proofs.Ytmmpnigbfiebbaa.Pure
