/- The plain law of desks: what is valid, what edits make, and what all functions of desks return. -/
import Derived.Test.YtolhmpagpoidjaaGreatPAx1
import Derived.Test.YtolhmpagpoidjaaGreatQMoves
namespace Go.Proofs.YtolhmpagpoidjaaGreat.PA
open Go.RowKit Go.Proofs.YtolhmpagpoidjaaGreatW.PrintWords Go.Proofs.YtolhmpagpoidjaaGreatW.PrintLast Go.Proofs.YtolhmpagpoidjaaGreatW.PrintMore
set_option linter.unusedVariables false
set_option linter.unusedSimpArgs false
def jmV (s : ByteArray) (n : Int) (t : ByteArray) (m : Int) : ByteArray × Int × Bool := if mvOK s n = true ∧ mvOK t m = true then moV (mvSt s n ++ mvSt t m) else (⟨#[]⟩, 0, false)
theorem spec_JoinMoves_ev (s : ByteArray) (n : Int) (t : ByteArray) (m : Int) (hs : s.size ≤ 1048576) (ht : t.size ≤ 1048576) : Ev (fun k => spec_JoinMoves.f k s n t m) (jmV s n t m) := by
  unfold spec_JoinMoves.f jmV
  refine Ev.bind (spec_mvGood_ev s n (by omega)) ?_
  by_cases h : mvOK s n = true
  · simp only [h, if_true, true_and]
    refine Ev.bind (spec_mvGood_ev t m (by omega)) ?_
    refine Ev.shift ?_
    simp only [spec_JoinMoves.j0]
    by_cases h' : mvOK t m = true
    · simp only [h', if_true, Bool.not_true, Bool.false_eq_true, if_false]
      have hz := mvSt_size h
      have hz' := mvSt_size h'
      refine Ev.bind (spec_mvAll_ev h) (Ev.bind (spec_mvAll_ev h') ?_)
      refine Ev.congr (fun k => if_pos (by omega)) ?_
      exact Ev.bind (spec_mvOf_ev _ (by rw [ByteArray.size_append]; omega)) (Ev.now _)
    · simp only [h', if_true, if_false, Bool.not_false]
      exact Ev.now _
  · simp only [h, if_false, false_and]
    refine Ev.shift ?_
    simp only [spec_JoinMoves.j0, if_true]
    exact Ev.now _
theorem impl_JoinMoves_ev (s : ByteArray) (n : Int) (t : ByteArray) (m : Int) (hs : s.size ≤ 1048576) (ht : t.size ≤ 1048576) : Ev (fun k => impl_JoinMoves.f k s n t m) (jmV s n t m) := by
  unfold impl_JoinMoves.f jmV
  refine Ev.bind (impl_IsMove_ev s n (by omega)) ?_
  by_cases h : mvOK s n = true
  · simp only [h, if_true, true_and]
    refine Ev.bind (impl_IsMove_ev t m (by omega)) ?_
    refine Ev.shift ?_
    simp only [impl_JoinMoves.j0]
    by_cases h' : mvOK t m = true
    · have hz := mvSt_size h
      have hz' := mvSt_size h'
      simp only [h', if_true, Bool.not_true, Bool.false_eq_true, if_false, impl_all h, impl_all h', Option.bind_some]
      refine Ev.congr (fun k => if_pos (by omega)) ?_
      first
      | exact impl_moveOf_ev _ (by rw [ByteArray.size_append]; omega)
      | exact Ev.bind (impl_moveOf_ev _ (by rw [ByteArray.size_append]; omega)) (Ev.now _)
    · simp only [h', if_true, if_false, Bool.not_false]
      exact Ev.now _
  · simp only [h, if_false, false_and]
    refine Ev.shift ?_
    simp only [impl_JoinMoves.j0, if_true]
    exact Ev.now _
end Go.Proofs.YtolhmpagpoidjaaGreat.PA
