/- The plain law of the functions over one or two movements: all steps, the same movement. -/
import Derived.Test.YtndipmdabphgcaaPAx1
import Derived.Test.YtndipmdabphgcaaPAx2
import Derived.Test.YtndipmdabphgcaaPAx3
import Derived.Test.YtndipmdabphgcaaQMove
namespace Go.Proofs.Ytndipmdabphgcaa.PA
open Go.RowKit Go.Proofs.YtndipmdabphgcaaW.PrintWords Go.Proofs.YtndipmdabphgcaaW.PrintLast Go.Proofs.YtndipmdabphgcaaW.PrintMore
set_option linter.unusedVariables false
set_option linter.unusedSimpArgs false
theorem szMove_small (s : ByteArray) (n a : Int) (hs : s.size ≤ 9223372036854775807) (h0 : 0 ≤ a) (h1 : a ≤ 1048576) (h : (s.size : Int) ≤ a) : laws_szMove.f s n a = some (a - (s.size : Int)) := by
  unfold laws_szMove.f
  rw [w64_i (by omega) (by omega), if_neg (by omega)]
theorem szMove_big (s : ByteArray) (n a : Int) (hs : s.size ≤ 9223372036854775807) (h0 : 0 ≤ a) (h1 : a ≤ 1048576) (h : a < (s.size : Int)) : laws_szMove.f s n a = some (-1) := by
  unfold laws_szMove.f
  rw [w64_i (by omega) (by omega), if_pos (by omega)]
def asV (s : ByteArray) (n : Int) : ByteArray × Bool := if mvOK s n = true then (mvSt s n, true) else (⟨#[]⟩, false)
theorem spec_AllSteps_ev (s : ByteArray) (n : Int) (hs : s.size ≤ 1048576) : Ev (fun k => spec_AllSteps.f k s n) (asV s n) := by
  unfold spec_AllSteps.f asV
  refine Ev.bind (spec_mvGood_ev s n (by omega)) ?_
  by_cases h : mvOK s n = true
  · simp only [h, if_true]
    exact Ev.bind (spec_mvAll_ev h) (Ev.now _)
  · simp only [h, if_false]
    exact Ev.now _
theorem impl_AllSteps_ev (s : ByteArray) (n : Int) (hs : s.size ≤ 1048576) : Ev (fun k => impl_AllSteps.f k s n) (asV s n) := by
  unfold impl_AllSteps.f asV
  refine Ev.bind (impl_IsMove_ev s n (by omega)) ?_
  by_cases h : mvOK s n = true
  · simp only [h, if_true, impl_all h]
    exact Ev.now _
  · simp only [h, if_false]
    exact Ev.now _
def smV (s : ByteArray) (n : Int) (t : ByteArray) (m : Int) : Bool × Bool := if mvOK s n = true ∧ mvOK t m = true then ((mvSt s n).toList == (mvSt t m).toList, true) else (false, false)
theorem Ev.shift {α : Type} {g : Nat → Option α} {r : α} (h : Ev (fun k => g (k + 1)) r) : Ev g r := Ev.step (fun _ => rfl) h
theorem spec_SameMove_ev (s : ByteArray) (n : Int) (t : ByteArray) (m : Int) (hs : s.size ≤ 1048576) (ht : t.size ≤ 1048576) : Ev (fun k => spec_SameMove.f k s n t m) (smV s n t m) := by
  unfold spec_SameMove.f smV
  refine Ev.bind (spec_mvGood_ev s n (by omega)) ?_
  by_cases h : mvOK s n = true
  · simp only [h, if_true, true_and]
    refine Ev.bind (spec_mvGood_ev t m (by omega)) ?_
    refine Ev.shift ?_
    simp only [spec_SameMove.j0]
    by_cases h' : mvOK t m = true
    · simp only [h', if_true, Bool.not_true, Bool.false_eq_true, if_false]
      exact Ev.bind (spec_mvAll_ev h) (Ev.bind (spec_mvAll_ev h') (Ev.now _))
    · simp only [h', if_true, if_false, Bool.not_false]
      exact Ev.now _
  · simp only [h, if_false, false_and]
    refine Ev.shift ?_
    simp only [spec_SameMove.j0, if_true]
    exact Ev.now _
theorem impl_SameMove_ev (s : ByteArray) (n : Int) (t : ByteArray) (m : Int) (hs : s.size ≤ 1048576) (ht : t.size ≤ 1048576) : Ev (fun k => impl_SameMove.f k s n t m) (smV s n t m) := by
  unfold impl_SameMove.f smV
  refine Ev.bind (impl_IsMove_ev s n (by omega)) ?_
  by_cases h : mvOK s n = true
  · simp only [h, if_true, true_and]
    refine Ev.bind (impl_IsMove_ev t m (by omega)) ?_
    refine Ev.shift ?_
    simp only [impl_SameMove.j0]
    by_cases h' : mvOK t m = true
    · simp only [h', if_true, Bool.not_true, Bool.false_eq_true, if_false, impl_all h, impl_all h']
      exact Ev.now _
    · simp only [h', if_true, if_false, Bool.not_false]
      exact Ev.now _
  · simp only [h, if_false, false_and]
    refine Ev.shift ?_
    simp only [impl_SameMove.j0, if_true]
    exact Ev.now _
end Go.Proofs.Ytndipmdabphgcaa.PA
