/- The law FnMoves, plainly: for all drawn movements the program and the reference say the same, a normal form is the same movement and no longer, and a text leads back. -/
import Derived.Test.YtgpkeclojbcgoaaGreatDoorWalkFnMoves
import Derived.Test.YtgpkeclojbcgoaaGreatDoorPAx3
import Derived.Test.YtgpkeclojbcgoaaGreatDoorQEvs
import Derived.Test.YtgpkeclojbcgoaaGreatDoorQParseM
import Derived.Test.YtgpkeclojbcgoaaGreatDoorQMoveD
import Derived.Test.YtgpkeclojbcgoaaGreatDoorQSpoil
namespace Go.Proofs.YtgpkeclojbcgoaaGreatDoor.Pure
open Go.RowKit Go.Proofs.YtgpkeclojbcgoaaGreatDoor.PA Go.Proofs.YtgpkeclojbcgoaaGreatDoorW.PrintWords Go.Proofs.YtgpkeclojbcgoaaGreatDoorW.PrintLast Go.Proofs.YtgpkeclojbcgoaaGreatDoorW.PrintMore
set_option linter.unusedVariables false
set_option linter.unusedSimpArgs false
def txV (s : ByteArray) (n : Int) : ByteArray × Bool := if mvOK s n = true then (mvTxt s n, true) else (⟨#[]⟩, false)
theorem impl_MoveText_ev (s : ByteArray) (n : Int) (hs : s.size ≤ 1048576) : Ev (fun k => impl_MoveText.f k s n) (txV s n) := by
  unfold impl_MoveText.f txV
  refine Ev.bind (impl_IsMove_ev s n (by omega)) ?_
  by_cases h : mvOK s n = true
  · simp only [if_pos h]
    exact Ev.congr (fun k => by rw [impl_mv_txt s n (mvOK_txt h).1 (mvOK_txt h).2, Option.bind_some]) (Ev.now _)
  · simp only [if_neg h]; exact Ev.now _
theorem spec_MoveText_ev (s : ByteArray) (n : Int) (hs : s.size ≤ 1048576) : Ev (fun k => spec_MoveText.f k s n) (txV s n) := by
  unfold spec_MoveText.f txV
  refine Ev.bind (spec_mvGood_ev s n (by omega)) ?_
  by_cases h : mvOK s n = true
  · simp only [if_pos h]
    exact Ev.bind (spec_mv_txt s n (mvOK_txt h).1 (mvOK_txt h).2) (Ev.now _)
  · simp only [if_neg h]; exact Ev.now _
theorem mvTxt_size6 (s : ByteArray) (n : Int) (h6 : s.size ≤ 6) (n1 : 1 ≤ n) (n3 : n ≤ 3) : (mvTxt s n).size ≤ 8 := by
  have := it_size n ⟨by omega, by omega⟩
  unfold mvTxt
  split
  · decide
  · split
    · rw [app_size, app_size, this]
      have : (⟨#[42]⟩ : ByteArray).size = 1 := rfl
      omega
    · omega
theorem drawNormal_d {c : List Int} (h : Cur c 0 0) : Evs (fun k => spec_DrawNormalMove.f k c) (fun r => r.1.size ≤ 20) := by
  unfold spec_DrawNormalMove.f
  refine Evs.last (P := fun r => r.1.size ≤ 20) ?_ (fun a ha => ha)
  unfold spec_DrawIsMove.f
  exact Evs.last (anyMove_d 0 h (by decide)) (fun a ha => ha.1)
theorem drawParse_d {c : List Int} (h : Cur c 0 0) : Evs (fun k => spec_DrawParseMove.f k c) (fun r => r.size ≤ 2000) := by
  unfold spec_DrawParseMove.f
  refine Evs.bind (move_d 0 h (by decide)) ?_
  rintro ⟨a, n, c1, i1, s1⟩ ⟨⟨_, rfl, h1⟩, h6, n1, n3⟩
  simp only [] at h1 h6 n1 n3
  refine Evs.eqn (spec_mv_txt a n (by omega) (.inr ⟨n1, by omega⟩)) ?_
  have hz := mvTxt_size6 a n h6 n1 n3
  refine Evs.bind (pick_d s1 h1 (by decide) 4) ?_
  rintro ⟨p, c2, i2, s2⟩ ⟨rfl, h2, _⟩
  refine Evs.ite (fun _ => ?_) (fun _ => Evs.ite (fun _ => ?_) (fun _ => Evs.now (by omega)))
  · exact Evs.last (spoilt_d s2 h2 (by decide) _ _ (by omega) (by decide) (by decide)) (fun a ha => by have := ha.2.2; omega)
  · exact Evs.last (of_d (R := fun x => x.size ≤ 2000) s2 h2 (by decide) _ (by simp) (by decide)) (fun a ha => ha.2.2)
theorem drawSame_d {c : List Int} (h : Cur c 0 0) : Evs (fun k => spec_DrawSameMove.f k c) (fun r => r.1.size ≤ 20 ∧ r.2.2.1.size ≤ 20) := by
  unfold spec_DrawSameMove.f
  refine Evs.bind (anyMove_d 0 h (by decide)) ?_
  rintro ⟨a, n, c1, i1, s1⟩ ⟨ha, rfl, h1⟩
  simp only [] at ha h1
  refine Evs.eqn (spec_mvGood_ev a n (by omega)) ?_
  refine Evs.ite (fun hv => ?_) (fun _ => ?_)
  · refine Evs.bind (one_d s1 h1 (by decide) 2) ?_
    rintro ⟨b, c2, i2, s2⟩ ⟨rfl, h2, _⟩
    refine Evs.shift ?_
    simp only [spec_DrawSameMove.j0]
    refine Evs.ite (fun _ => Evs.eqn (spec_mvNormal_ev hv) (Evs.now ⟨by omega, ?_⟩)) (fun _ => Evs.last (anyMove_d s2 h2 (by decide)) (fun b hb => ⟨by simp only []; omega, hb.1⟩))
    have := (nm_props hv).2.2.2
    simp only []; omega
  · refine Evs.shift ?_
    simp only [spec_DrawSameMove.j0]
    exact Evs.no (by decide) (Evs.last (anyMove_d s1 h1 (by decide)) (fun b hb => ⟨by simp only []; omega, hb.1⟩))
/-! ### The parts of the law, from its end -/
theorem smV_yes {s t : ByteArray} {n m : Int} (h : (smV s n t m).2 = true) : mvOK s n = true ∧ mvOK t m = true := by
  unfold smV at h
  split at h
  · assumption
  · cases h
theorem nm_same {s t : ByteArray} {n m : Int} (h1 : mvOK s n = true) (h2 : mvOK t m = true) :
    (((moV (mvSt s n)).1.toList == (moV (mvSt t m)).1.toList) && ((moV (mvSt s n)).2.1 == (moV (mvSt t m)).2.1)) = ((mvSt s n).toList == (mvSt t m).toList) := by
  rw [Bool.eq_iff_iff]
  simp only [Bool.and_eq_true, beq_iff_eq]
  constructor
  · rintro ⟨e1, e2⟩
    rw [← (nm_props h1).2.2.1, ← (nm_props h2).2.2.1, bs_toList_inj e1, e2]
  · intro e
    rw [bs_toList_inj e]
    exact ⟨rfl, rfl⟩
theorem j1_d (s t : ByteArray) (n m : Int) (hs : s.size ≤ 20) (ht : t.size ≤ 20) :
    Evs (fun k => laws_FnMoves.j1 k (smV s n t m).2 (smV s n t m).1 s n t m) (fun r => r = true) := by
  refine Evs.shift ?_
  simp only [laws_FnMoves.j1]
  refine Evs.ite (fun hk => ?_) (fun _ => Evs.now rfl)
  obtain ⟨h1, h2⟩ := smV_yes hk
  refine Evs.eqn (impl_NormalMove_ev s n (by omega)) (Evs.eqn (impl_NormalMove_ev t m (by omega)) ?_)
  have e1 : nmV s n = ((moV (mvSt s n)).1, (moV (mvSt s n)).2.1, true) := by unfold nmV; rw [if_pos h1]
  have e2 : nmV t m = ((moV (mvSt t m)).1, (moV (mvSt t m)).2.1, true) := by unfold nmV; rw [if_pos h2]
  have e3 : smV s n t m = ((mvSt s n).toList == (mvSt t m).toList, true) := by unfold smV; rw [if_pos ⟨h1, h2⟩]
  rw [e1, e2, e3]
  refine Evs.yes rfl (Evs.yes rfl (Evs.now ?_))
  simp only [nm_same h1 h2, beq_self_eq_true]
theorem j0_d (a s t : ByteArray) (l n m : Int) (ha : a.size ≤ 20) (hs : s.size ≤ 20) (ht : t.size ≤ 20) :
    Evs (fun k => laws_FnMoves.j0 k (mvOK a l) (txV a l).1 (smV s n t m).2 (smV s n t m).1 false a l (nmV a l).1 (nmV a l).2.1 (nmV a l).1 (nmV a l).2.1 s n t m) (fun r => r = true) := by
  refine Evs.shift ?_
  simp only [laws_FnMoves.j0]
  refine Evs.no (by decide) (Evs.ite (fun hk => ?_) (fun _ => j1_d s t n m hs ht))
  obtain ⟨p1, p2, p3, p4⟩ := nm_props hk
  have e : nmV a l = ((moV (mvSt a l)).1, (moV (mvSt a l)).2.1, true) := by unfold nmV; rw [if_pos hk]
  have e1 : (nmV a l).1 = (moV (mvSt a l)).1 := by rw [e]
  have e2 : (nmV a l).2.1 = (moV (mvSt a l)).2.1 := by rw [e]
  have et : (txV a l).1 = mvTxt a l := by unfold txV; rw [if_pos hk]
  rw [e1, e2, et]
  refine Evs.eqn (impl_SameMove_ev _ _ _ _ (by omega) (by omega)) (Evs.eqn (impl_NormalMove_ev _ _ (by omega)) (Evs.eqn (impl_ParseMove_ev _ ?_) ?_))
  · have := mvTxt_size a l (mvOK_txt hk).1 (mvOK_txt hk).2
    omega
  rw [ps_back hk]
  have es : smV a l (moV (mvSt a l)).1 (moV (mvSt a l)).2.1 = (true, true) := by
    unfold smV; rw [if_pos ⟨hk, p2⟩, p3]; simp
  have en : nmV (moV (mvSt a l)).1 (moV (mvSt a l)).2.1 = ((moV (mvSt a l)).1, (moV (mvSt a l)).2.1, true) := by
    unfold nmV; rw [if_pos p2, p3]
  rw [es, en]
  exact Evs.yes rfl (Evs.yes rfl (Evs.yes rfl (Evs.yes (by simp) (Evs.yes rfl (Evs.yes (by simp) (Evs.no (by omega) (j1_d s t n m hs ht)))))))
theorem FnMoves : laws_FnMoves.Pure := by
  rintro x0 x1 ⟨hl0, hb0⟩ ⟨hl1, hb1⟩
  have c0 := cur0 hb0
  have c1 := cur0 hb1
  suffices h : Evs (fun k => laws_FnMoves.f k x0 x1) (fun r => r = true) by
    obtain ⟨b, hb, rfl⟩ := h
    exact Ev.rounds hb
  unfold laws_FnMoves.f
  refine Evs.ite (fun _ => Evs.now rfl) (fun _ => ?_)
  refine Evs.bind (drawNormal_d c0) ?_
  rintro ⟨a, l⟩ ha
  simp only [] at ha
  refine Evs.eqn (impl_NormalMove_ev a l (by omega)) (Evs.eqn (spec_NormalMove_ev a l (by omega)) (Evs.eqn (impl_AllSteps_ev a l (by omega)) (Evs.eqn (spec_AllSteps_ev a l (by omega)) (Evs.eqn (impl_MoveText_ev a l (by omega)) (Evs.eqn (spec_MoveText_ev a l (by omega)) ?_)))))
  refine Evs.bind (drawParse_d c1) ?_
  intro u hu
  refine Evs.eqn (impl_ParseMove_ev u (by omega)) (Evs.eqn (spec_ParseMove_ev u (by omega)) ?_)
  refine Evs.bind (drawSame_d c1) ?_
  rintro ⟨s, n, t, m⟩ ⟨hs, ht⟩
  simp only [] at hs ht
  refine Evs.eqn (impl_SameMove_ev s n t m (by omega) (by omega)) (Evs.eqn (spec_SameMove_ev s n t m (by omega) (by omega)) ?_)
  refine Evs.yes (by simp) (Evs.yes (by simp) (Evs.yes (by simp) (Evs.yes rfl (Evs.yes (by simp) (Evs.yes rfl (Evs.yes (by simp) (Evs.yes (by simp) (Evs.yes (by simp) (Evs.yes (by simp) ?_)))))))))
  refine Evs.eqn (impl_IsMove_ev a l (by omega)) ?_
  have hn : (nmV a l).2.2 = mvOK a l := by unfold nmV; split <;> simp_all
  have hx : (asV a l).2 = mvOK a l := by unfold asV; split <;> simp_all
  have ht2 : (txV a l).2 = mvOK a l := by unfold txV; split <;> simp_all
  simp only [hn, hx, ht2, beq_self_eq_true, Bool.not_true]
  exact Evs.yes trivial (Evs.yes trivial (j0_d a s t l n m ha hs ht))
end Go.Proofs.YtgpkeclojbcgoaaGreatDoor.Pure
