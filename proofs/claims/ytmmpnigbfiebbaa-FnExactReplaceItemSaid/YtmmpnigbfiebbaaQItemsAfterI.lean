/- The plain law of the items after some edits, of the program. -/
import Derived.Test.YtmmpnigbfiebbaaPAx9
import Derived.Test.YtmmpnigbfiebbaaQItems
namespace Go.Proofs.Ytmmpnigbfiebbaa.PA
open Go.RowKit Go.Proofs.YtmmpnigbfiebbaaW.PrintWords Go.Proofs.YtmmpnigbfiebbaaW.PrintLast Go.Proofs.YtmmpnigbfiebbaaW.PrintMore
set_option linter.unusedVariables false
set_option linter.unusedSimpArgs false
theorem impl_ItemsAfter_ev {a : List ByteArray} {b c : List S25} (h : DOk a b c) (n : Int) : Ev (fun k => impl_ItemsAfter.f k a b c n) (iaV a b c n) := by
  obtain ⟨⟨ha, hs⟩, ⟨hb, _⟩, hc, _⟩ := id h
  unfold impl_ItemsAfter.f iaV
  refine Ev.bind (impl_IsDesk_ev h) ?_
  by_cases hg : gdV a b c = true
  · simp only [if_pos hg, within_val, Option.bind_some, hg, true_and]
    rw [w64_i (by omega) (by omega)]
    refine Ev.shift ?_
    simp only [impl_ItemsAfter.j0]
    by_cases hn : 0 ≤ n ∧ n ≤ (b.length : Int) + (c.length : Int)
    · simp only [if_pos hn, decide_eq_true hn, Bool.not_true, Bool.false_eq_true, if_false]
      refine Ev.bind (impl_all_ev a b c hb hc) ?_
      refine Ev.congr (fun k => by rw [if_pos hn.1, if_pos (by simp; omega)]) ?_
      have hsm := gdV_small hg
      refine Ev.bind (impl_made_ev a (gdV_items hg) _ (by simp; omega) (take_ok (dok_all h) _)) ?_
      rw [gdV_take hg]
      exact Ev.now _
    · simp only [if_neg hn, decide_eq_false hn, Bool.not_false, if_true]
      exact Ev.now _
  · simp only [hg, if_false, false_and]
    refine Ev.shift ?_
    simp only [impl_ItemsAfter.j0, if_true]
    exact Ev.now _
end Go.Proofs.Ytmmpnigbfiebbaa.PA
