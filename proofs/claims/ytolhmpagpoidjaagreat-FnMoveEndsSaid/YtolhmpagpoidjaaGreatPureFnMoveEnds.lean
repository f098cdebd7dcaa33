/- The law FnMoveEnds, plainly: for all drawn movements the way back ends at the opposite place, mirrored ones exchange sides, and joined ones have all steps. -/
import Derived.Test.YtolhmpagpoidjaaGreatWalkFnMoveEnds
import Derived.Test.YtolhmpagpoidjaaGreatPAx2
import Derived.Test.YtolhmpagpoidjaaGreatQEvs
import Derived.Test.YtolhmpagpoidjaaGreatQMvDraws
import Derived.Test.YtolhmpagpoidjaaGreatQRevI
import Derived.Test.YtolhmpagpoidjaaGreatQMirV
import Derived.Test.YtolhmpagpoidjaaGreatQMoP
import Derived.Test.YtolhmpagpoidjaaGreatQLongestR
namespace Go.Proofs.YtolhmpagpoidjaaGreat.Pure
open Go.RowKit Go.Proofs.YtolhmpagpoidjaaGreat.PA Go.Proofs.YtolhmpagpoidjaaGreatW.PrintWords Go.Proofs.YtolhmpagpoidjaaGreatW.PrintLast Go.Proofs.YtolhmpagpoidjaaGreatW.PrintMore
set_option linter.unusedVariables false
set_option linter.unusedSimpArgs false
theorem asV_ok {s : ByteArray} {n : Int} (h : mvOK s n = true) : asV s n = (mvSt s n, true) := by unfold asV; rw [if_pos h]
theorem mvSt_small {s : ByteArray} {n : Int} (h : mvOK s n = true) : (mvSt s n).size ≤ 18 := by
  obtain ⟨h6, h1, h3, _⟩ := mvOK_parts h
  unfold mvSt
  rw [rep_size]
  have : n.toNat ≤ 3 := by omega
  have := Nat.mul_le_mul this h6
  omega
theorem last_d (b : Bool) (x : ByteArray) (y : Int) (h : b = true → 1 ≤ y ∧ y ≤ 18 ∧ x.size = 1) :
    Evs (fun _ => if b = true then (if y ≥ 1 then (if y ≤ 18 then (some ((x.size : Int) == 1)) else (some false)) else (some false)) else (some true)) (fun r => r = true) := by
  refine Evs.ite (fun hb => ?_) (fun _ => Evs.now rfl)
  obtain ⟨h1, h2, h3⟩ := h hb
  exact Evs.yes h1 (Evs.yes h2 (Evs.now (by rw [h3]; rfl)))
theorem j1_d (s t : ByteArray) (n m : Int) (v : ByteArray × Int × Bool) (hs : s.size ≤ 20) (ht : t.size ≤ 20) (hv : v.2.2 = true → 1 ≤ v.2.1 ∧ v.2.1 ≤ 18 ∧ v.1.size = 1) :
    Evs (fun k => laws_FnMoveEnds.j1 k (jmV s n t m).2.2 v.2.2 v.1 v.2.1 s n t m (jmV s n t m).1 (jmV s n t m).2.1) (fun r => r = true) := by
  refine Evs.shift ?_
  simp only [laws_FnMoveEnds.j1]
  refine Evs.ite (fun hk => ?_) (fun _ => last_d _ _ _ hv)
  obtain ⟨h1, h2, h3, h4⟩ := jm_props hk
  have z1 := mvSt_small h1
  have z2 := mvSt_small h2
  have zj : (jmV s n t m).1.size ≤ 6 := (mvOK_parts h3).1
  refine Evs.eqn (impl_AllSteps_ev _ _ (by omega)) (Evs.eqn (spec_AllSteps_ev s n (by omega)) (Evs.eqn (spec_AllSteps_ev t m (by omega)) ?_))
  rw [asV_ok h1, asV_ok h2, asV_ok h3, h4]
  exact Evs.yes rfl (Evs.yes rfl (Evs.yes rfl (Evs.yes (by simp only []; omega) (Evs.yes rfl (last_d _ _ _ hv)))))
theorem j0_d (a s t : ByteArray) (l n m : Int) (v : ByteArray × Int × Bool) (ha : a.size ≤ 20) (hs : s.size ≤ 20) (ht : t.size ≤ 20) (hv : v.2.2 = true → 1 ≤ v.2.1 ∧ v.2.1 ≤ 18 ∧ v.1.size = 1) :
    Evs (fun k => laws_FnMoveEnds.j0 k (eeV a l).2.2.2 (eeV a l).1 (eeV a l).2.1 (eeV a l).2.2.1 (jmV s n t m).2.2 v.2.2 v.1 v.2.1 false a l (rvV a l).1 (rvV a l).2.1 (mmV a l).1 (mmV a l).2.1 s n t m (jmV s n t m).1 (jmV s n t m).2.1) (fun r => r = true) := by
  refine Evs.shift ?_
  simp only [laws_FnMoveEnds.j0]
  refine Evs.no (by decide) (Evs.ite (fun hk => ?_) (fun _ => j1_d s t n m v hs ht hv))
  have hk : mvOK a l = true := by
    unfold eeV at hk
    split at hk
    · assumption
    · cases hk
  have e1 : rvV a l = (bkS a, l, true) := by unfold rvV; rw [if_pos hk]
  have e2 : mmV a l = (mirS a, l, true) := by unfold mmV; rw [if_pos hk]
  rw [e1, e2]
  have z1 := bkS_size a
  have z2 := mirS_len a
  refine Evs.eqn (impl_EndOfMove_ev (bkS a) l (by omega)) (Evs.eqn (impl_EndOfMove_ev (mirS a) l (by omega)) (Evs.eqn (impl_ReverseMove_ev (bkS a) l (by omega)) (Evs.eqn (impl_MirrorMove_ev (mirS a) l (by omega)) ?_)))
  rw [eeV_bk hk, eeV_mir hk, rvV_twice hk, mmV_twice hk]
  exact Evs.yes rfl (Evs.yes (by rw [Int.zero_sub]) (Evs.yes (by rw [Int.zero_sub]) (Evs.yes (by rw [Int.zero_sub]) (Evs.yes rfl (Evs.yes (by rw [Int.zero_sub]) (Evs.yes rfl (Evs.yes rfl (Evs.yes rfl (Evs.yes (by simp) (Evs.yes rfl (Evs.yes (by simp) (j1_d s t n m v hs ht hv))))))))))))
theorem FnMoveEnds : laws_FnMoveEnds.Pure := by
  rintro x0 x1 ⟨hl0, hb0⟩ ⟨hl1, hb1⟩
  have c0 := cur0 hb0
  have c1 := cur0 hb1
  suffices h : Evs (fun k => laws_FnMoveEnds.f k x0 x1) (fun r => r = true) by
    obtain ⟨b, hb, rfl⟩ := h
    exact Ev.rounds hb
  unfold laws_FnMoveEnds.f
  refine Evs.ite (fun _ => Evs.now rfl) (fun _ => ?_)
  refine Evs.bind (drawEnd_d c0) ?_
  rintro ⟨a, l⟩ ha
  simp only [] at ha
  refine Evs.eqn (impl_EndOfMove_ev a l (by omega)) (Evs.eqn (spec_EndOfMove_ev a l (by omega)) (Evs.eqn (impl_ReverseMove_ev a l (by omega)) (Evs.eqn (spec_ReverseMove_ev a l (by omega)) (Evs.eqn (impl_MirrorMove_ev a l (by omega)) (Evs.eqn (spec_MirrorMove_ev a l (by omega)) ?_)))))
  refine Evs.bind (drawJoin_d c1) ?_
  rintro ⟨s, n, t, m⟩ ⟨hs, ht⟩
  simp only [] at hs ht
  refine Evs.eqn (impl_JoinMoves_ev s n t m (by omega) (by omega)) (Evs.eqn (spec_JoinMoves_ev s n t m (by omega) (by omega)) ?_)
  refine Evs.bind (drawLongest_d c1) ?_
  rintro ⟨u, p⟩ hu
  simp only [] at hu
  obtain ⟨v, v1, v2, v3⟩ := longest_same u p (by omega)
  refine Evs.eqn v2 (Evs.eqn v1 ?_)
  have q1 : (rvV a l).2.2 = (eeV a l).2.2.2 := by unfold rvV eeV; split <;> rfl
  have q2 : (mmV a l).2.2 = (eeV a l).2.2.2 := by unfold mmV eeV; split <;> rfl
  refine Evs.yes (by simp) (Evs.yes rfl (Evs.yes rfl (Evs.yes rfl (Evs.yes (by simp) (Evs.yes (by simp) (Evs.yes (by simp) (Evs.yes (by simp) (Evs.yes (by simp) (Evs.yes (by simp) (Evs.yes (by simp) (Evs.yes rfl (Evs.yes rfl (Evs.yes (by rw [q1]; simp) ?_)))))))))))))
  have q3 : (!((mmV a l).2.2 == (eeV a l).2.2.2)) = false := by rw [q2]; simp
  rw [q3]
  exact j0_d a s t l n m v ha hs ht v3
end Go.Proofs.YtolhmpagpoidjaaGreat.Pure
