/- The law FnExactTightestSteps, plainly. -/
import Derived.Test.YtelldeeokpjchaaGreatDoorWalkFnExactTightestSteps
import Derived.Test.YtelldeeokpjchaaGreatDoorPAx17
import Derived.Test.YtelldeeokpjchaaGreatDoorQSigns
namespace Go.Proofs.YtelldeeokpjchaaGreatDoor.PA
open Go.RowKit Go.Proofs.YtelldeeokpjchaaGreatDoorW.PrintWords Go.Proofs.YtelldeeokpjchaaGreatDoorW.PrintLast Go.Proofs.YtelldeeokpjchaaGreatDoorW.PrintMore
set_option linter.unusedVariables false
set_option linter.unusedSimpArgs false
section
variable (t i m r l : Int) (s : Bool) (p f g d : Int) (c : Bool) (b : ByteArray) (n : Int) (w : Bool) (t' i' m' r' l' : Int) (s' : Bool) (p' f' g' d' : Int) (c' : Bool) (b' : ByteArray) (n' : Int)
/-- The steps of the hand that has more. -/
def sgSteps : Int := if ((mvSt b n).size : Int) > ((mvSt b' n').size : Int) then ((mvSt b n).size : Int) else ((mvSt b' n').size : Int)
theorem sg_mv (h : sgOK t i m r l s p f g d c b n w t' i' m' r' l' s' p' f' g' d' c' b' n' = true) : (b.size ≤ 6 ∧ 0 ≤ n ∧ n ≤ 3) ∧ (b'.size ≤ 6 ∧ 0 ≤ n' ∧ n' ≤ 3) := by
  unfold sgOK at h
  rw [Bool.and_eq_true] at h
  refine ⟨hdOK_mv h.1, ?_⟩
  have h2 := h.2
  cases w
  · rw [if_neg (by decide)] at h2
    unfold noHd at h2
    simp only [Bool.and_eq_true, beq_iff_eq] at h2
    obtain ⟨_, _, _, e, rfl⟩ := h2
    have : b'.size = 0 := by
      rw [← bs_list] at e
      show b'.data.size = 0
      rw [← Array.length_toList, e]; rfl
    exact ⟨by omega, by omega, by omega⟩
  · rw [if_pos rfl, Bool.and_eq_true] at h2
    exact hdOK_mv h2.1
theorem spec_steps_ev (h : sgOK t i m r l s p f g d c b n w t' i' m' r' l' s' p' f' g' d' c' b' n' = true) : Ev (fun k => spec_ruSteps.f k t i m r l s p f g d c b n w t' i' m' r' l' s' p' f' g' d' c' b' n') (sgSteps b n b' n') := by
  have hm := sg_mv t i m r l s p f g d c b n w t' i' m' r' l' s' p' f' g' d' c' b' n' h
  unfold spec_ruSteps.f
  refine Ev.bind (spec_all_ev hm.1.1 hm.1.2.1 hm.1.2.2) (Ev.bind (spec_all_ev hm.2.1 hm.2.2.1 hm.2.2.2) ?_)
  unfold spec_l1Most.f sgSteps
  split <;> exact Ev.now _
theorem impl_steps (h : sgOK t i m r l s p f g d c b n w t' i' m' r' l' s' p' f' g' d' c' b' n' = true) : impl_Sign_steps.f t i m r l s p f g d c b n w t' i' m' r' l' s' p' f' g' d' c' b' n' = some (sgSteps b n b' n') := by
  have hm := sg_mv t i m r l s p f g d c b n w t' i' m' r' l' s' p' f' g' d' c' b' n' h
  simp only [impl_Sign_steps.f, impl_all' hm.1.1 hm.1.2.1 hm.1.2.2, impl_all' hm.2.1 hm.2.2.1 hm.2.2.2, Option.bind_some]
  have e : mx ((mvSt b n).size : Int) ((mvSt b' n').size : Int) = sgSteps b n b' n' := by unfold mx sgSteps; split <;> split <;> omega
  rw [e]
end
def valV (x : S40) : Int := sgSteps x.f0.f3.f0 x.f0.f3.f1 x.f2.f3.f0 x.f2.f3.f1
theorem spec_val (x : S40) (h : sgGood x = true) : Ev (fun k => spec_ruSteps.f k (x.f0.f0.f0) (x.f0.f0.f1) (x.f0.f0.f2) (x.f0.f0.f3) (x.f0.f0.f4) (x.f0.f0.f5) (x.f0.f1.f0) (x.f0.f1.f1) (x.f0.f2.f0) (x.f0.f2.f1) (x.f0.f2.f2) (x.f0.f3.f0) (x.f0.f3.f1) (x.f1) (x.f2.f0.f0) (x.f2.f0.f1) (x.f2.f0.f2) (x.f2.f0.f3) (x.f2.f0.f4) (x.f2.f0.f5) (x.f2.f1.f0) (x.f2.f1.f1) (x.f2.f2.f0) (x.f2.f2.f1) (x.f2.f2.f2) (x.f2.f3.f0) (x.f2.f3.f1)) (valV x) := spec_steps_ev (x.f0.f0.f0) (x.f0.f0.f1) (x.f0.f0.f2) (x.f0.f0.f3) (x.f0.f0.f4) (x.f0.f0.f5) (x.f0.f1.f0) (x.f0.f1.f1) (x.f0.f2.f0) (x.f0.f2.f1) (x.f0.f2.f2) (x.f0.f3.f0) (x.f0.f3.f1) (x.f1) (x.f2.f0.f0) (x.f2.f0.f1) (x.f2.f0.f2) (x.f2.f0.f3) (x.f2.f0.f4) (x.f2.f0.f5) (x.f2.f1.f0) (x.f2.f1.f1) (x.f2.f2.f0) (x.f2.f2.f1) (x.f2.f2.f2) (x.f2.f3.f0) (x.f2.f3.f1) h
abbrev impl_va (x : S40) : Option Int := impl_Sign_steps.f (x.f0.f0.f0) (x.f0.f0.f1) (x.f0.f0.f2) (x.f0.f0.f3) (x.f0.f0.f4) (x.f0.f0.f5) (x.f0.f1.f0) (x.f0.f1.f1) (x.f0.f2.f0) (x.f0.f2.f1) (x.f0.f2.f2) (x.f0.f3.f0) (x.f0.f3.f1) (x.f1) (x.f2.f0.f0) (x.f2.f0.f1) (x.f2.f0.f2) (x.f2.f0.f3) (x.f2.f0.f4) (x.f2.f0.f5) (x.f2.f1.f0) (x.f2.f1.f1) (x.f2.f2.f0) (x.f2.f2.f1) (x.f2.f2.f2) (x.f2.f3.f0) (x.f2.f3.f1)
theorem impl_val (x : S40) (h : sgGood x = true) : impl_va x = some (valV x) := impl_steps (x.f0.f0.f0) (x.f0.f0.f1) (x.f0.f0.f2) (x.f0.f0.f3) (x.f0.f0.f4) (x.f0.f0.f5) (x.f0.f1.f0) (x.f0.f1.f1) (x.f0.f2.f0) (x.f0.f2.f1) (x.f0.f2.f2) (x.f0.f3.f0) (x.f0.f3.f1) (x.f1) (x.f2.f0.f0) (x.f2.f0.f1) (x.f2.f0.f2) (x.f2.f0.f3) (x.f2.f0.f4) (x.f2.f0.f5) (x.f2.f1.f0) (x.f2.f1.f1) (x.f2.f2.f0) (x.f2.f2.f1) (x.f2.f2.f2) (x.f2.f3.f0) (x.f2.f3.f1) h
theorem sm_eq (a b : Int) : spec_l1Most.f a b = some (mx a b) := by unfold spec_l1Most.f mx; split <;> (try split) <;> simp <;> omega
/-- The most of all. -/
def foldV (L : List S40) (x : Int) : Int := L.foldl (fun a s => mx a (valV s)) x
theorem foldV_at (L : List S40) (j : Nat) (h : j < L.length) (x : Int) : foldV (L.drop j) x = foldV (L.drop (j + 1)) (mx x (valV L[j])) := by
  unfold foldV; rw [List.drop_eq_getElem_cons h, List.foldl_cons]
theorem spec_from (L : List S40) (hL : L.length ≤ 1048576) (hg : L.all sgGood = true) : ∀ (e j : Nat) (x : Int), L.length - j = e → j ≤ L.length → Ev (fun k => spec_TightestSteps.l0 k x L (L.length : Int) (j : Int)) (foldV (L.drop j) x, true)
  | 0, j, x, he, hj => by
    rw [List.drop_eq_nil_of_le (by omega)]
    refine Ev.step (f := fun _ => some (x, true)) (fun k => ?_) (Ev.now _)
    simp only [spec_TightestSteps.l0]
    rw [if_neg (by omega)]
  | e + 1, j, x, he, hj => by
    have hlt : j < L.length := by omega
    have hw : wrap64 ((j : Int) + 1) = ((j + 1 : Nat) : Int) := w64_succ (by omega)
    rw [foldV_at L j hlt]
    refine Ev.step (f := fun k => (spec_ruSteps.f k (L[j].f0.f0.f0) (L[j].f0.f0.f1) (L[j].f0.f0.f2) (L[j].f0.f0.f3) (L[j].f0.f0.f4) (L[j].f0.f0.f5) (L[j].f0.f1.f0) (L[j].f0.f1.f1) (L[j].f0.f2.f0) (L[j].f0.f2.f1) (L[j].f0.f2.f2) (L[j].f0.f3.f0) (L[j].f0.f3.f1) (L[j].f1) (L[j].f2.f0.f0) (L[j].f2.f0.f1) (L[j].f2.f0.f2) (L[j].f2.f0.f3) (L[j].f2.f0.f4) (L[j].f2.f0.f5) (L[j].f2.f1.f0) (L[j].f2.f1.f1) (L[j].f2.f2.f0) (L[j].f2.f2.f1) (L[j].f2.f2.f2) (L[j].f2.f3.f0) (L[j].f2.f3.f1)).bind fun y => (spec_l1Most.f x y).bind fun z => spec_TightestSteps.l0 k z L (L.length : Int) ((j + 1 : Nat) : Int)) (fun k => ?_) (Ev.bind (spec_val L[j] (good_at hg j hlt)) ?_)
    · simp only [spec_TightestSteps.l0, hw, rdA_at L j hlt]
      rw [if_pos (by omega), if_pos (by omega), if_pos (by omega)]
    · simp only [sm_eq, Option.bind_some]
      exact spec_from L hL hg e (j + 1) _ (by omega) (by omega)
theorem impl_from (L : List S40) (hL : L.length ≤ 1048576) (hg : L.all sgGood = true) : ∀ (e j : Nat) (x : Int), L.length - j = e → j ≤ L.length → Ev (fun k => impl_TightestSteps.l0 k x L (L.length : Int) (j : Int)) (foldV (L.drop j) x, true)
  | 0, j, x, he, hj => by
    rw [List.drop_eq_nil_of_le (by omega)]
    refine Ev.step (f := fun _ => some (x, true)) (fun k => ?_) (Ev.now _)
    simp only [impl_TightestSteps.l0]
    rw [if_neg (by omega)]
  | e + 1, j, x, he, hj => by
    have hlt : j < L.length := by omega
    have hw : wrap64 ((j : Int) + 1) = ((j + 1 : Nat) : Int) := w64_succ (by omega)
    rw [foldV_at L j hlt]
    refine Ev.step (fun k => ?_) (impl_from L hL hg e (j + 1) _ (by omega) (by omega))
    simp only [impl_TightestSteps.l0, hw, rdA_at L j hlt]
    rw [if_pos (by omega), if_pos (by omega), if_pos (by omega)]
    have := impl_val L[j] (good_at hg j hlt)
    unfold impl_va at this
    rw [this]
    rfl
theorem both_ev (L : List S40) (hL : L.length ≤ 1048576) (hz : ∀ x ∈ L, SzA x) : ∃ x, Ev (fun k => spec_TightestSteps.f k L) x ∧ Ev (fun k => impl_TightestSteps.f k L) x := by
  unfold spec_TightestSteps.f impl_TightestSteps.f
  have q1 := paList_ev L hL hz
  have q2 := areSigns_ev L hL hz
  cases h : (L.all sgGood && decide ((L.length : Int) ≤ 20))
  · rw [h] at q1 q2
    refine ⟨(0, false), Ev.bind q1 ?_, Ev.bind q2 ?_⟩ <;> (simp only [Bool.false_eq_true, if_false]; exact Ev.now _)
  · rw [h] at q1 q2
    rw [Bool.and_eq_true] at h
    have e1 := spec_from L hL h.1 _ 0 0 rfl (Nat.zero_le _)
    have e2 := impl_from L hL h.1 _ 0 0 rfl (Nat.zero_le _)
    refine ⟨_, Ev.bind q1 (Ev.congr (fun k => if_pos rfl) e1), Ev.bind q2 (Ev.congr (fun k => if_pos rfl) e2)⟩
end Go.Proofs.YtelldeeokpjchaaGreatDoor.PA
namespace Go.Proofs.YtelldeeokpjchaaGreatDoor.Pure
open Go.RowKit Go.Proofs.YtelldeeokpjchaaGreatDoor.PA Go.Proofs.YtelldeeokpjchaaGreatDoorW.PrintWords Go.Proofs.YtelldeeokpjchaaGreatDoorW.PrintLast Go.Proofs.YtelldeeokpjchaaGreatDoorW.PrintMore
theorem FnExactTightestSteps : laws_FnExactTightestSteps.Pure := by
  rintro L ⟨hL, hV⟩
  refine Ev.rounds (g := fun k => laws_FnExactTightestSteps.f k L) (r := true) ?_
  unfold laws_FnExactTightestSteps.f
  obtain ⟨v, e, hv⟩ := szL L hL (fun x hx => ⟨(hV x hx).1.2.2.2.1, (hV x hx).2.2.2.2.2.1⟩) 1048576 (by decide) (by decide)
  refine Ev.bind e ?_
  rcases hv with hv | ⟨h0, _, h1, h2⟩
  · exact Ev.congr (f := fun _ => some true) (fun k => by rw [if_pos hv]) (Ev.now _)
  · simp only [if_neg (show ¬ v < 0 by omega)]
    have hl : (L.map asS).length ≤ 1048576 := by simpa using h1
    obtain ⟨x, hx, hy⟩ := both_ev (L.map asS) hl (sz_as L h2)
    refine Ev.bind (toL L h1) (Ev.bind hx (Ev.bind (toL L h1) (Ev.bind hy ?_)))
    simp only [if_true, beq_self_eq_true, Bool.not_true]
    refine Ev.step (f := fun k => (laws_toSignS.f k L).bind fun y => (laws_eqSignS.f k (L.map asS) y).bind fun z => if z = true then some true else some false) (fun k => by simp only [laws_FnExactTightestSteps.j0, Bool.false_eq_true, if_false]) ?_
    exact Ev.bind (toL L h1) (Ev.bind (eqL (L.map asS) hl) (Ev.congr (f := fun _ => some true) (fun k => if_pos rfl) (Ev.now _)))
end Go.Proofs.YtelldeeokpjchaaGreatDoor.Pure
