/- The law FnExactTightestOpen, plainly. -/
import Derived.Test.YtelldeeokpjchaaGreatDoorWalkFnExactTightestOpen
import Derived.Test.YtelldeeokpjchaaGreatDoorPAx18
import Derived.Test.YtelldeeokpjchaaGreatDoorQSigns
namespace Go.Proofs.YtelldeeokpjchaaGreatDoor.PA
open Go.RowKit Go.Proofs.YtelldeeokpjchaaGreatDoorW.PrintWords Go.Proofs.YtelldeeokpjchaaGreatDoorW.PrintLast Go.Proofs.YtelldeeokpjchaaGreatDoorW.PrintMore
set_option linter.unusedVariables false
set_option linter.unusedSimpArgs false
theorem op_from (L : List Int) (hL : L.length ≤ 1000) : ∀ (e j : Nat) (x : Int), L.length - j = e → j ≤ L.length → 0 ≤ x → x ≤ (j : Int) →
    Ev (fun k => spec_ruOpen.l0 k x L (L.length : Int) (j : Int)) (x + thICnt (L.drop j))
  | 0, j, x, he, hj, h0, h1 => by
    rw [List.drop_eq_nil_of_le (by omega)]
    refine Ev.step (f := fun _ => some (x + thICnt [])) (fun k => ?_) (Ev.now _)
    simp only [spec_ruOpen.l0]
    rw [if_neg (by omega)]
    simp [thICnt]
  | e + 1, j, x, he, hj, h0, h1 => by
    have hlt : j < L.length := by omega
    have hwj : wrap64 ((j : Int) + 1) = ((j + 1 : Nat) : Int) := w64_succ (by omega)
    have hwx : wrap64 (x + 1) = x + 1 := w64_i (by omega) (by omega)
    have hr : rd L (j : Int) = L[j] := rd_at L j hlt
    have hc : thICnt (L.drop j) = (if L[j] = 0 then 1 else 0) + thICnt (L.drop (j + 1)) := by
      unfold thICnt
      rw [List.drop_eq_getElem_cons hlt, List.filter_cons]
      by_cases h : L[j] = 0 <;> simp [h] <;> omega
    rw [hc]
    by_cases hq : L[j] = 0
    · have ih := op_from L hL e (j + 1) (x + 1) (by omega) (by omega) (by omega) (by omega)
      rw [if_pos hq, show x + (1 + thICnt (L.drop (j + 1))) = x + 1 + thICnt (L.drop (j + 1)) by omega]
      refine Ev.step (fun k => ?_) ih
      simp only [spec_ruOpen.l0, hwj, hwx, hr]
      rw [if_pos (by omega), if_pos (by omega), if_pos (by omega), if_pos hq]
    · have ih := op_from L hL e (j + 1) x (by omega) (by omega) h0 (by omega)
      rw [if_neg hq, Int.zero_add]
      refine Ev.step (fun k => ?_) ih
      simp only [spec_ruOpen.l0, hwj, hr]
      rw [if_pos (by omega), if_pos (by omega), if_pos (by omega), if_neg hq]
def valV (x : S40) : Int := thICnt [x.f0.f0.f1, x.f0.f0.f2, x.f0.f0.f3, x.f0.f0.f4]
theorem spec_val (x : S40) (h : sgGood x = true) : Ev (fun k => spec_ruOpen.f k (x.f0.f0.f0) (x.f0.f0.f1) (x.f0.f0.f2) (x.f0.f0.f3) (x.f0.f0.f4) (x.f0.f0.f5) (x.f0.f1.f0) (x.f0.f1.f1) (x.f0.f2.f0) (x.f0.f2.f1) (x.f0.f2.f2) (x.f0.f3.f0) (x.f0.f3.f1) (x.f1) (x.f2.f0.f0) (x.f2.f0.f1) (x.f2.f0.f2) (x.f2.f0.f3) (x.f2.f0.f4) (x.f2.f0.f5) (x.f2.f1.f0) (x.f2.f1.f1) (x.f2.f2.f0) (x.f2.f2.f1) (x.f2.f2.f2) (x.f2.f3.f0) (x.f2.f3.f1)) (valV x) := by
  unfold spec_ruOpen.f spec_shFingers.f valV
  have := op_from [x.f0.f0.f1, x.f0.f0.f2, x.f0.f0.f3, x.f0.f0.f4] (by simp) _ 0 0 rfl (Nat.zero_le _) (by omega) (by omega)
  rw [List.drop_zero, Int.zero_add] at this
  exact this
abbrev impl_va (x : S40) : Option Int := impl_Shape_open.f x.f0.f0.f0 x.f0.f0.f1 x.f0.f0.f2 x.f0.f0.f3 x.f0.f0.f4 x.f0.f0.f5
theorem impl_val (x : S40) (h : sgGood x = true) : impl_va x = some (valV x) := rfl
theorem sm_eq (a b : Int) : spec_l1Least.f a b = some (mn a b) := by unfold spec_l1Least.f mn; split <;> (try split) <;> simp <;> omega
/-- The least of all. -/
def foldV (L : List S40) (x : Int) : Int := L.foldl (fun a s => mn a (valV s)) x
theorem foldV_at (L : List S40) (j : Nat) (h : j < L.length) (x : Int) : foldV (L.drop j) x = foldV (L.drop (j + 1)) (mn x (valV L[j])) := by
  unfold foldV; rw [List.drop_eq_getElem_cons h, List.foldl_cons]
theorem spec_from (L : List S40) (hL : L.length ≤ 1048576) (hg : L.all sgGood = true) : ∀ (e j : Nat) (x : Int), L.length - j = e → j ≤ L.length → Ev (fun k => spec_TightestOpen.l0 k x L (L.length : Int) (j : Int)) (foldV (L.drop j) x, true)
  | 0, j, x, he, hj => by
    rw [List.drop_eq_nil_of_le (by omega)]
    refine Ev.step (f := fun _ => some (x, true)) (fun k => ?_) (Ev.now _)
    simp only [spec_TightestOpen.l0]
    rw [if_neg (by omega)]
  | e + 1, j, x, he, hj => by
    have hlt : j < L.length := by omega
    have hw : wrap64 ((j : Int) + 1) = ((j + 1 : Nat) : Int) := w64_succ (by omega)
    rw [foldV_at L j hlt]
    refine Ev.step (f := fun k => (spec_ruOpen.f k (L[j].f0.f0.f0) (L[j].f0.f0.f1) (L[j].f0.f0.f2) (L[j].f0.f0.f3) (L[j].f0.f0.f4) (L[j].f0.f0.f5) (L[j].f0.f1.f0) (L[j].f0.f1.f1) (L[j].f0.f2.f0) (L[j].f0.f2.f1) (L[j].f0.f2.f2) (L[j].f0.f3.f0) (L[j].f0.f3.f1) (L[j].f1) (L[j].f2.f0.f0) (L[j].f2.f0.f1) (L[j].f2.f0.f2) (L[j].f2.f0.f3) (L[j].f2.f0.f4) (L[j].f2.f0.f5) (L[j].f2.f1.f0) (L[j].f2.f1.f1) (L[j].f2.f2.f0) (L[j].f2.f2.f1) (L[j].f2.f2.f2) (L[j].f2.f3.f0) (L[j].f2.f3.f1)).bind fun y => (spec_l1Least.f x y).bind fun z => spec_TightestOpen.l0 k z L (L.length : Int) ((j + 1 : Nat) : Int)) (fun k => ?_) (Ev.bind (spec_val L[j] (good_at hg j hlt)) ?_)
    · simp only [spec_TightestOpen.l0, hw, rdA_at L j hlt]
      rw [if_pos (by omega), if_pos (by omega), if_pos (by omega)]
    · simp only [sm_eq, Option.bind_some]
      exact spec_from L hL hg e (j + 1) _ (by omega) (by omega)
theorem impl_from (L : List S40) (hL : L.length ≤ 1048576) (hg : L.all sgGood = true) : ∀ (e j : Nat) (x : Int), L.length - j = e → j ≤ L.length → Ev (fun k => impl_TightestOpen.l0 k x L (L.length : Int) (j : Int)) (foldV (L.drop j) x, true)
  | 0, j, x, he, hj => by
    rw [List.drop_eq_nil_of_le (by omega)]
    refine Ev.step (f := fun _ => some (x, true)) (fun k => ?_) (Ev.now _)
    simp only [impl_TightestOpen.l0]
    rw [if_neg (by omega)]
  | e + 1, j, x, he, hj => by
    have hlt : j < L.length := by omega
    have hw : wrap64 ((j : Int) + 1) = ((j + 1 : Nat) : Int) := w64_succ (by omega)
    rw [foldV_at L j hlt]
    refine Ev.step (fun k => ?_) (impl_from L hL hg e (j + 1) _ (by omega) (by omega))
    simp only [impl_TightestOpen.l0, hw, rdA_at L j hlt]
    rw [if_pos (by omega), if_pos (by omega), if_pos (by omega)]
    have := impl_val L[j] (good_at hg j hlt)
    unfold impl_va at this
    rw [this]
    rfl
theorem both_ev (L : List S40) (hL : L.length ≤ 1048576) (hz : ∀ x ∈ L, SzA x) : ∃ x, Ev (fun k => spec_TightestOpen.f k L) x ∧ Ev (fun k => impl_TightestOpen.f k L) x := by
  unfold spec_TightestOpen.f impl_TightestOpen.f
  have q1 := paList_ev L hL hz
  have q2 := areSigns_ev L hL hz
  cases h : (L.all sgGood && decide ((L.length : Int) ≤ 20))
  · rw [h] at q1 q2
    refine ⟨(0, false), Ev.bind q1 ?_, Ev.bind q2 ?_⟩ <;> (simp only [Bool.false_eq_true, if_false]; exact Ev.now _)
  · rw [h] at q1 q2
    rw [Bool.and_eq_true] at h
    have e1 := spec_from L hL h.1 _ 0 4 rfl (Nat.zero_le _)
    have e2 := impl_from L hL h.1 _ 0 4 rfl (Nat.zero_le _)
    refine ⟨_, Ev.bind q1 (Ev.congr (fun k => if_pos rfl) e1), Ev.bind q2 (Ev.congr (fun k => if_pos rfl) e2)⟩
end Go.Proofs.YtelldeeokpjchaaGreatDoor.PA
namespace Go.Proofs.YtelldeeokpjchaaGreatDoor.Pure
open Go.RowKit Go.Proofs.YtelldeeokpjchaaGreatDoor.PA Go.Proofs.YtelldeeokpjchaaGreatDoorW.PrintWords Go.Proofs.YtelldeeokpjchaaGreatDoorW.PrintLast Go.Proofs.YtelldeeokpjchaaGreatDoorW.PrintMore
theorem FnExactTightestOpen : laws_FnExactTightestOpen.Pure := by
  rintro L ⟨hL, hV⟩
  refine Ev.rounds (g := fun k => laws_FnExactTightestOpen.f k L) (r := true) ?_
  unfold laws_FnExactTightestOpen.f
  obtain ⟨v, e, hv⟩ := szL L hL (fun x hx => ⟨(hV x hx).1.2.2.2.1, (hV x hx).2.2.2.2.2.1⟩) 1048576 (by decide) (by decide)
  refine Ev.bind e ?_
  rcases hv with hv | ⟨h0, _, h1, h2⟩
  · exact Ev.congr (f := fun _ => some true) (fun k => by rw [if_pos hv]) (Ev.now _)
  · simp only [if_neg (show ¬ v < 0 by omega)]
    have hl : (L.map asS).length ≤ 1048576 := by simpa using h1
    obtain ⟨x, hx, hy⟩ := both_ev (L.map asS) hl (sz_as L h2)
    refine Ev.bind (toL L h1) (Ev.bind hx (Ev.bind (toL L h1) (Ev.bind hy ?_)))
    simp only [if_true, beq_self_eq_true, Bool.not_true]
    refine Ev.step (f := fun k => (laws_toSignS.f k L).bind fun y => (laws_eqSignS.f k (L.map asS) y).bind fun z => if z = true then some true else some false) (fun k => by simp only [laws_FnExactTightestOpen.j0, Bool.false_eq_true, if_false]) ?_
    exact Ev.bind (toL L h1) (Ev.bind (eqL (L.map asS) hl) (Ev.congr (f := fun _ => some true) (fun k => if_pos rfl) (Ev.now _)))
end Go.Proofs.YtelldeeokpjchaaGreatDoor.Pure
