/- The plain law of StepDistance. -/
import Derived.Test.YtadddkdfbmbagaaPAx4
import Derived.Test.YtadddkdfbmbagaaQStep
namespace Go.Proofs.Ytadddkdfbmbagaa.PA
open Go.RowKit Go.Proofs.YtadddkdfbmbagaaW.PrintWords Go.Proofs.YtadddkdfbmbagaaW.PrintLast Go.Proofs.YtadddkdfbmbagaaW.PrintMore
set_option linter.unusedVariables false
set_option linter.unusedSimpArgs false
theorem StepDistance_same (s : ByteArray) (n : Int) (t : ByteArray) (m : Int) (hs : s.size ≤ 1048576) (ht : t.size ≤ 1048576) : ∃ v, Ev (fun k => spec_StepDistance.f k s n t m) v ∧ Ev (fun k => impl_StepDistance.f k s n t m) v := by
  by_cases h : mvOK s n = true
  · by_cases h' : mvOK t m = true
    · have z1 := mvSt_size h
      have z2 := mvSt_size h'
      have a1 := spec_mvAll_ev h
      have a2 := impl_all h
      have b1 := spec_mvAll_ev h'
      have b2 := impl_all h'
      generalize mvSt s n = A at z1 a1 a2
      generalize mvSt t m = B at z2 b1 b2
      obtain ⟨v, e1, e2⟩ := steps_same A B (by omega) (by omega)
      refine ⟨(v, true), ?_, ?_⟩
      · unfold spec_StepDistance.f
        refine Ev.bind (spec_mvGood_ev s n (by omega)) ?_
        simp only [h, if_true]
        refine Ev.bind (spec_mvGood_ev t m (by omega)) ?_
        refine Ev.shift ?_
        simp only [spec_StepDistance.j0, h', Bool.not_true, Bool.false_eq_true, if_false]
        exact Ev.bind a1 (Ev.bind b1 (Ev.bind e1 (Ev.now _)))
      · unfold impl_StepDistance.f
        refine Ev.bind (impl_IsMove_ev s n (by omega)) ?_
        simp only [h, if_true]
        refine Ev.bind (impl_IsMove_ev t m (by omega)) ?_
        refine Ev.step (f := fun k => (impl_stepDistance.f k A B).bind fun x => some (x, true)) (fun k => ?_) (Ev.bind e2 (Ev.now _))
        rw [h']
        simp only [impl_StepDistance.j0]
        rw [if_neg (by decide), a2, Option.bind_some, b2, Option.bind_some]
    · have h2 : mvOK t m = false := Bool.eq_false_iff.mpr h'
      refine ⟨(0, false), ?_, ?_⟩
      · unfold spec_StepDistance.f
        refine Ev.bind (spec_mvGood_ev s n (by omega)) ?_
        simp only [h, if_true]
        refine Ev.bind (spec_mvGood_ev t m (by omega)) ?_
        refine Ev.shift ?_
        simp only [spec_StepDistance.j0, h2, Bool.not_false, if_true]
        exact Ev.now _
      · unfold impl_StepDistance.f
        refine Ev.bind (impl_IsMove_ev s n (by omega)) ?_
        simp only [h, if_true]
        refine Ev.bind (impl_IsMove_ev t m (by omega)) ?_
        refine Ev.shift ?_
        simp only [impl_StepDistance.j0, h2, Bool.not_false, if_true]
        exact Ev.now _
  · have h2 : mvOK s n = false := Bool.eq_false_iff.mpr h
    refine ⟨(0, false), ?_, ?_⟩
    · unfold spec_StepDistance.f
      refine Ev.bind (spec_mvGood_ev s n (by omega)) ?_
      simp only [h2, Bool.false_eq_true, if_false]
      refine Ev.shift ?_
      simp only [spec_StepDistance.j0, if_true]
      exact Ev.now _
    · unfold impl_StepDistance.f
      refine Ev.bind (impl_IsMove_ev s n (by omega)) ?_
      simp only [h2, Bool.false_eq_true, if_false]
      refine Ev.shift ?_
      simp only [impl_StepDistance.j0, if_true]
      exact Ev.now _
end Go.Proofs.Ytadddkdfbmbagaa.PA
