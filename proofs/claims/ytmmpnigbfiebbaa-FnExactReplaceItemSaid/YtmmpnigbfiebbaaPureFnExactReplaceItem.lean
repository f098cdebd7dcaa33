/- The law FnExactReplaceItem, plainly: for every desk the program's and the reference's functions return the same desk and the same bool, in lists of their own; the argument stays. -/
import Derived.Test.YtmmpnigbfiebbaaWalkFnExactReplaceItem
import Derived.Test.YtmmpnigbfiebbaaQReplaceItem
import Derived.Test.YtmmpnigbfiebbaaQDeskM
namespace Go.Proofs.Ytmmpnigbfiebbaa.Pure
open Go.RowKit Go.Proofs.Ytmmpnigbfiebbaa.PA Go.Proofs.YtmmpnigbfiebbaaW.PrintWords Go.Proofs.YtmmpnigbfiebbaaW.PrintLast Go.Proofs.YtmmpnigbfiebbaaW.PrintMore
theorem FnExactReplaceItem : laws_FnExactReplaceItem.Pure := by
  rintro ⟨a, b, c⟩ n g hV _ hgV
  refine Ev.rounds (g := fun k => laws_FnExactReplaceItem.f k a b c n g) (r := true) ?_
  unfold laws_FnExactReplaceItem.f
  by_cases hgs : (g.size : Int) > 1048576
  · exact Ev.congr (f := fun _ => some true) (fun k => if_pos hgs) (Ev.now _)
  refine Ev.congr (fun k => if_neg hgs) ?_
  replace hgs : g.size ≤ 1048576 := by omega
  obtain ⟨⟨hla, hVa⟩, ⟨hlb, hVb⟩, hlc, hVc⟩ := hV
  obtain ⟨r, hr, hq⟩ := szDesk_ev a b c hVa hla (fun x hx => ⟨(hVb x hx).2.2.1, (hVb x hx).2.2.2⟩) hlb (fun x hx => ⟨(hVc x hx).2.2.1, (hVc x hx).2.2.2⟩) hlc 1048576 (by omega) (by omega)
  refine Ev.bind hr ?_
  rcases hq with hn | ⟨h0, _, hD⟩
  · exact Ev.congr (f := fun _ => some true) (fun k => if_pos hn) (Ev.now _)
  refine Ev.congr (fun k => if_neg (by omega)) ?_
  have hT := toDesk_ev a b c hD.1.1 hD.2.1.1 hD.2.2.1
  have hK := dok_of hD
  have hE := eqDesk_ev a (b.map tdE) (c.map tdE) (by have := hK.1.1; omega) (by have := hK.2.1.1; omega) (by have := hK.2.2.1; omega)
  obtain ⟨m0, a0, b0, c0, hm0, e01, e02⟩ := mkDesk_ev a (b.map tdE) (c.map tdE) hK.1.1 hK.2.1.1 hK.2.2.1
  have hS := spec_ReplaceItem_ev hK n g hgs
  have hI := impl_ReplaceItem_ev hK n g hgs
  have hL := rpV_len a (b.map tdE) (c.map tdE) n g
  generalize rpV a (b.map tdE) (c.map tdE) n g = v at hS hI hL
  obtain ⟨p, q, s, ok⟩ := v
  obtain ⟨hp, hq', hs'⟩ := hL
  simp only [] at hp hq' hs'
  have hQ := eqDesk_ev p q s (by omega) (by omega) (by omega)
  obtain ⟨m, a', b', c', hm, e1, e2⟩ := mkDesk_ev p q s hp hq' hs'
  refine Ev.bind hT (Ev.bind hS (Ev.bind hT (Ev.bind hI (Ev.bind hQ ?_))))
  simp only [if_true, bne_self_eq_false]
  refine Ev.shift ?_
  simp only [laws_FnExactReplaceItem.j0, Bool.false_eq_true, if_false]
  refine Ev.bind hT (Ev.bind hE ?_)
  simp only [if_true]
  refine Ev.bind e01 ?_
  refine Ev.congr (fun k => if_neg (by simp only []; omega)) ?_
  refine Ev.bind hQ ?_
  simp only [if_true, bne_self_eq_false]
  refine Ev.shift ?_
  simp only [laws_FnExactReplaceItem.j1, Bool.false_eq_true, if_false]
  refine Ev.bind e1 (Ev.bind e2 ?_)
  refine Ev.congr (fun k => by rw [if_neg (by omega), if_pos rfl]) ?_
  refine Ev.bind hT (Ev.bind hI (Ev.bind hQ ?_))
  simp only [if_true, bne_self_eq_false]
  refine Ev.shift ?_
  simp only [laws_FnExactReplaceItem.j2, Bool.false_eq_true, if_false]
  refine Ev.bind e2 ?_
  exact Ev.congr (f := fun _ => some true) (fun k => by rw [if_neg (by omega), if_pos rfl]) (Ev.now _)
end Go.Proofs.Ytmmpnigbfiebbaa.Pure
