/- The law FnExactKeepsConstraint, plainly: for every sign and constraint the program's and the reference's functions return the same two bools. -/
import Derived.Test.YtmbffgkejknfaaaGreatDoorWalkFnExactKeepsConstraint
import Derived.Test.YtmbffgkejknfaaaGreatDoorPAx10
import Derived.Test.YtmbffgkejknfaaaGreatDoorPAx7
import Derived.Test.YtmbffgkejknfaaaGreatDoorQSigns
namespace Go.Proofs.YtmbffgkejknfaaaGreatDoor.PA
open Go.RowKit Go.Proofs.YtmbffgkejknfaaaGreatDoorW.PrintWords Go.Proofs.YtmbffgkejknfaaaGreatDoorW.PrintLast Go.Proofs.YtmbffgkejknfaaaGreatDoorW.PrintMore
/-- Is it a constraint? -/
def kcOK (k v : Int) : Bool := decide (0 ≤ k ∧ k ≤ 4) && decide (0 ≤ v ∧ v ≤ icMost k)
theorem ru_good (k v : Int) : spec_ruGood.f k v = some (kcOK k v) := by
  unfold spec_ruGood.f kcOK
  simp only [in_val, Option.bind_some]
  by_cases hk : 0 ≤ k ∧ k ≤ 4
  · have hm : ∃ M, spec_ruMost.f k = some M ∧ icMost k = M ∧ (k = 3 → M = 3) := by
      have h5 : k = 0 ∨ k = 1 ∨ k = 2 ∨ k = 3 ∨ k = 4 := by omega
      rcases h5 with rfl | rfl | rfl | rfl | rfl
      · exact ⟨18, rfl, rfl, by decide⟩
      · exact ⟨9, rfl, rfl, by decide⟩
      · exact ⟨4, rfl, rfl, by decide⟩
      · exact ⟨3, rfl, rfl, by decide⟩
      · exact ⟨9, rfl, rfl, by decide⟩
    obtain ⟨M, e1, e2, e3⟩ := hm
    simp only [decide_eq_true hk, if_true, e1, e2, Option.bind_some, Bool.true_and]
    by_cases hv : 0 ≤ v ∧ v ≤ M
    · simp only [decide_eq_true hv, if_true]
      by_cases h3 : k = 3
      · rw [if_pos h3, decide_eq_true (by have := e3 h3; omega)]
      · rw [if_neg h3]
    · simp only [decide_eq_false hv, Bool.false_eq_true, if_false]
  · simp only [decide_eq_false hk, Bool.false_eq_true, if_false, Bool.false_and]
theorem op_from (L : List Int) (hL : L.length ≤ 1000) : ∀ (e j : Nat) (x : Int), L.length - j = e → j ≤ L.length → 0 ≤ x → x ≤ (j : Int) →
    Ev (fun k => spec_ruOpen.l0 k x L (L.length : Int) (j : Int)) (x + thICnt (L.drop j))
  | 0, j, x, he, hj, h0, h1 => by
    rw [List.drop_eq_nil_of_le (by omega)]
    refine Ev.step (f := fun _ => some (x + thICnt [])) (fun k => ?_) (Ev.now _)
    simp only [spec_ruOpen.l0]
    rw [if_neg (by omega)]
    simp [thICnt]
  | e + 1, j, x, he, hj, h0, h1 => by
    have hlt : j < L.length := by omega
    have hwj : wrap64 ((j : Int) + 1) = ((j + 1 : Nat) : Int) := w64_succ (by omega)
    have hwx : wrap64 (x + 1) = x + 1 := w64_i (by omega) (by omega)
    have hr : rd L (j : Int) = L[j] := rd_at L j hlt
    have hc : thICnt (L.drop j) = (if L[j] = 0 then 1 else 0) + thICnt (L.drop (j + 1)) := by
      unfold thICnt
      rw [List.drop_eq_getElem_cons hlt, List.filter_cons]
      by_cases h : L[j] = 0 <;> simp [h] <;> omega
    rw [hc]
    by_cases hq : L[j] = 0
    · have ih := op_from L hL e (j + 1) (x + 1) (by omega) (by omega) (by omega) (by omega)
      rw [if_pos hq, show x + (1 + thICnt (L.drop (j + 1))) = x + 1 + thICnt (L.drop (j + 1)) by omega]
      refine Ev.step (fun k => ?_) ih
      simp only [spec_ruOpen.l0, hwj, hwx, hr]
      rw [if_pos (by omega), if_pos (by omega), if_pos (by omega), if_pos hq]
    · have ih := op_from L hL e (j + 1) x (by omega) (by omega) h0 (by omega)
      rw [if_neg hq, Int.zero_add]
      refine Ev.step (fun k => ?_) ih
      simp only [spec_ruOpen.l0, hwj, hr]
      rw [if_pos (by omega), if_pos (by omega), if_pos (by omega), if_neg hq]
section
variable (t i m r l : Int) (s : Bool) (p f g d : Int) (c : Bool) (b : ByteArray) (n : Int) (w : Bool) (t' i' m' r' l' : Int) (s' : Bool) (p' f' g' d' : Int) (c' : Bool) (b' : ByteArray) (n' : Int)
/-- The kind. -/
def sgKind : Int := if w = true then (if b'.toList = ([] : List UInt8) then (if shEq t i m r l s t' i' m' r' l' s' = true then 2 else 3) else 1) else 0
theorem spec_kind : spec_siKind.f t i m r l s p f g d c b n w t' i' m' r' l' s' p' f' g' d' c' b' n' = some (sgKind t i m r l s w t' i' m' r' l' s' b') := by
  unfold spec_siKind.f sgKind
  show (if w = true then (if b'.toList = ([] : List UInt8) then (if shEq t i m r l s t' i' m' r' l' s' = true then _ else _) else _) else _) = _
  split <;> (try split) <;> (try split) <;> rfl
theorem impl_kind : impl_Sign_kind.f t i m r l s p f g d c b n w t' i' m' r' l' s' p' f' g' d' c' b' n' = some (sgKind t i m r l s w t' i' m' r' l' s' b') := by
  unfold impl_Sign_kind.f sgKind
  simp only [impl_moves, Option.bind_some]
  show (if w = true then (if _ then _ else (if shEq t' i' m' r' l' s' t i m r l s = true then _ else _)) else _) = _
  rw [shEq_comm t' i' m' r' l' s']
  cases w <;> by_cases h : b'.toList = ([] : List UInt8) <;> cases shEq t i m r l s t' i' m' r' l' s' <;> simp [h]
/-- The steps of the hand that has more. -/
def sgSteps : Int := if ((mvSt b n).size : Int) > ((mvSt b' n').size : Int) then ((mvSt b n).size : Int) else ((mvSt b' n').size : Int)
theorem sg_mv (h : sgOK t i m r l s p f g d c b n w t' i' m' r' l' s' p' f' g' d' c' b' n' = true) : (b.size ≤ 6 ∧ 0 ≤ n ∧ n ≤ 3) ∧ (b'.size ≤ 6 ∧ 0 ≤ n' ∧ n' ≤ 3) := by
  unfold sgOK at h
  rw [Bool.and_eq_true] at h
  refine ⟨hdOK_mv h.1, ?_⟩
  have h2 := h.2
  cases w
  · rw [if_neg (by decide)] at h2
    unfold noHd at h2
    simp only [Bool.and_eq_true, beq_iff_eq] at h2
    obtain ⟨_, _, _, e, rfl⟩ := h2
    have : b'.size = 0 := by
      rw [← bs_list] at e
      show b'.data.size = 0
      rw [← Array.length_toList, e]; rfl
    exact ⟨by omega, by omega, by omega⟩
  · rw [if_pos rfl, Bool.and_eq_true] at h2
    exact hdOK_mv h2.1
theorem ru_open : Ev (fun k => spec_ruOpen.f k t i m r l s p f g d c b n w t' i' m' r' l' s' p' f' g' d' c' b' n') (thICnt [i, m, r, l]) := by
  unfold spec_ruOpen.f spec_shFingers.f
  have := op_from [i, m, r, l] (by simp) _ 0 0 rfl (Nat.zero_le _) (by omega) (by omega)
  rw [List.drop_zero, Int.zero_add] at this
  exact this
/-- Does the sign keep it? -/
def kcV (k v : Int) : Bool := if k = 0 then decide (sgSteps b n b' n' ≤ v) else (if k = 1 then (if g = v then false else (if w = true then (g' != v) else true)) else (if k = 2 then decide (thICnt [i, m, r, l] ≥ v) else (if k = 3 then (sgKind t i m r l s w t' i' m' r' l' s' b' != v) else decide (g ≤ v))))
theorem spec_keeps (h : sgOK t i m r l s p f g d c b n w t' i' m' r' l' s' p' f' g' d' c' b' n' = true) (k v : Int) : Ev (fun q => spec_ruKeeps.f q t i m r l s p f g d c b n w t' i' m' r' l' s' p' f' g' d' c' b' n' k v) (kcV t i m r l s g b n w t' i' m' r' l' s' g' b' n' k v) := by
  unfold spec_ruKeeps.f kcV
  by_cases k0 : k = 0
  · simp only [if_pos k0]
    have hm := sg_mv t i m r l s p f g d c b n w t' i' m' r' l' s' p' f' g' d' c' b' n' h
    have hst : Ev (fun q => spec_ruSteps.f q t i m r l s p f g d c b n w t' i' m' r' l' s' p' f' g' d' c' b' n') (sgSteps b n b' n') := by
      unfold spec_ruSteps.f
      refine Ev.bind (spec_all_ev hm.1.1 hm.1.2.1 hm.1.2.2) (Ev.bind (spec_all_ev hm.2.1 hm.2.2.1 hm.2.2.2) ?_)
      unfold spec_l1Most.f sgSteps
      split <;> exact Ev.now _
    exact Ev.bind hst (Ev.now _)
  simp only [if_neg k0]
  by_cases k1 : k = 1
  · simp only [if_pos k1]
    by_cases hg : g = v
    · simp only [if_pos hg]; exact Ev.now _
    · simp only [if_neg hg]; cases w <;> exact Ev.now _
  simp only [if_neg k1]
  by_cases k2 : k = 2
  · simp only [if_pos k2]
    exact Ev.bind (ru_open t i m r l s p f g d c b n w t' i' m' r' l' s' p' f' g' d' c' b' n') (Ev.now _)
  simp only [if_neg k2]
  by_cases k3 : k = 3
  · simp only [if_pos k3, spec_kind, Option.bind_some]; exact Ev.now _
  simp only [if_neg k3]
  exact Ev.now _
theorem impl_keeps (h : sgOK t i m r l s p f g d c b n w t' i' m' r' l' s' p' f' g' d' c' b' n' = true) (k v : Int) : impl_Constraint_keptBy.f k v t i m r l s p f g d c b n w t' i' m' r' l' s' p' f' g' d' c' b' n' = some (kcV t i m r l s g b n w t' i' m' r' l' s' g' b' n' k v) := by
  unfold impl_Constraint_keptBy.f kcV
  by_cases k0 : k = 0
  · simp only [if_pos k0]
    have hm := sg_mv t i m r l s p f g d c b n w t' i' m' r' l' s' p' f' g' d' c' b' n' h
    simp only [impl_Sign_steps.f, impl_all' hm.1.1 hm.1.2.1 hm.1.2.2, impl_all' hm.2.1 hm.2.2.1 hm.2.2.2, Option.bind_some]
    have e : mx ((mvSt b n).size : Int) ((mvSt b' n').size : Int) = sgSteps b n b' n' := by unfold mx sgSteps; split <;> split <;> omega
    rw [e]
  simp only [if_neg k0]
  by_cases k1 : k = 1
  · simp only [if_pos k1]
    by_cases hg : g = v
    · simp only [if_pos hg]
    · simp only [if_neg hg]; cases w <;> rfl
  simp only [if_neg k1]
  by_cases k2 : k = 2
  · simp only [if_pos k2]
    rfl
  simp only [if_neg k2]
  by_cases k3 : k = 3
  · simp only [if_pos k3, impl_kind, Option.bind_some]
  simp only [if_neg k3]
theorem spec_KeepsConstraint_ev (hb : b.size ≤ 1048576) (hb' : b'.size ≤ 1048576) (k v : Int) : Ev (fun q => spec_KeepsConstraint.f q t i m r l s p f g d c b n w t' i' m' r' l' s' p' f' g' d' c' b' n' k v) (if sgOK t i m r l s p f g d c b n w t' i' m' r' l' s' p' f' g' d' c' b' n' = true then (if kcOK k v = true then (kcV t i m r l s g b n w t' i' m' r' l' s' g' b' n' k v, true) else (false, false)) else (false, false)) := by
  unfold spec_KeepsConstraint.f
  refine Ev.bind (spec_good_ev t i m r l s p f g d c b n w t' i' m' r' l' s' p' f' g' d' c' b' n' hb hb') ?_
  cases h : sgOK t i m r l s p f g d c b n w t' i' m' r' l' s' p' f' g' d' c' b' n'
  · simp only [Bool.false_eq_true, if_false]; exact Ev.now _
  · simp only [if_true, ru_good, Option.bind_some]
    cases hk : kcOK k v
    · simp only [Bool.false_eq_true, if_false]; exact Ev.now _
    · simp only [if_true]
      exact Ev.bind (spec_keeps t i m r l s p f g d c b n w t' i' m' r' l' s' p' f' g' d' c' b' n' h k v) (Ev.now _)
theorem impl_KeepsConstraint_ev (hb : b.size ≤ 1048576) (hb' : b'.size ≤ 1048576) (k v : Int) : Ev (fun q => impl_KeepsConstraint.f q t i m r l s p f g d c b n w t' i' m' r' l' s' p' f' g' d' c' b' n' k v) (if sgOK t i m r l s p f g d c b n w t' i' m' r' l' s' p' f' g' d' c' b' n' = true then (if kcOK k v = true then (kcV t i m r l s g b n w t' i' m' r' l' s' g' b' n' k v, true) else (false, false)) else (false, false)) := by
  unfold impl_KeepsConstraint.f
  refine Ev.bind (impl_sign_ev t i m r l s p f g d c b n w t' i' m' r' l' s' p' f' g' d' c' b' n' hb hb') ?_
  cases h : sgOK t i m r l s p f g d c b n w t' i' m' r' l' s' p' f' g' d' c' b' n'
  · simp only [Bool.false_eq_true, if_false]; exact Ev.now _
  · have e : impl_IsConstraint.f k v = some (kcOK k v) := rfl
    simp only [if_true, e, Option.bind_some]
    cases hk : kcOK k v
    · simp only [Bool.false_eq_true, if_false]; exact Ev.now _
    · simp only [if_true, impl_keeps t i m r l s p f g d c b n w t' i' m' r' l' s' p' f' g' d' c' b' n' h k v, Option.bind_some]; exact Ev.now _
end
end Go.Proofs.YtmbffgkejknfaaaGreatDoor.PA
namespace Go.Proofs.YtmbffgkejknfaaaGreatDoor.Pure
open Go.RowKit Go.Proofs.YtmbffgkejknfaaaGreatDoor.PA Go.Proofs.YtmbffgkejknfaaaGreatDoorW.PrintWords Go.Proofs.YtmbffgkejknfaaaGreatDoorW.PrintLast Go.Proofs.YtmbffgkejknfaaaGreatDoorW.PrintMore
theorem FnExactKeepsConstraint : laws_FnExactKeepsConstraint.Pure := by
  rintro ⟨⟨⟨t, i, m, r, l, s⟩, ⟨p, f⟩, ⟨g, d, c⟩, ⟨b, n⟩⟩, w, ⟨⟨t', i', m', r', l', s'⟩, ⟨p', f'⟩, ⟨g', d', c'⟩, ⟨b', n'⟩⟩⟩ ⟨k, x⟩ hV _
  have hb : b.size ≤ 9223372036854775807 := hV.1.2.2.2.1
  have hb' : b'.size ≤ 9223372036854775807 := hV.2.2.2.2.2.1
  refine Ev.rounds (g := fun q => laws_FnExactKeepsConstraint.f q t i m r l s p f g d c b n w t' i' m' r' l' s' p' f' g' d' c' b' n' k x) (r := true) ?_
  unfold laws_FnExactKeepsConstraint.f
  obtain ⟨v, e, hv⟩ := sz_sign t i m r l s p f g d c b n w t' i' m' r' l' s' p' f' g' d' c' b' n' 1048576 (by omega) (by omega) hb hb'
  simp only [e, Option.bind_some, to_sign, laws_toConstraint.f]
  rcases hv with hv | ⟨h0, _, h1, h2⟩
  · exact Ev.congr (f := fun _ => some true) (fun k => by rw [if_pos hv]) (Ev.now _)
  · simp only [if_neg (show ¬ v < 0 by omega)]
    refine Ev.bind (spec_KeepsConstraint_ev t i m r l s p f g d c b n w t' i' m' r' l' s' p' f' g' d' c' b' n' h1 h2 k x) (Ev.bind (impl_KeepsConstraint_ev t i m r l s p f g d c b n w t' i' m' r' l' s' p' f' g' d' c' b' n' h1 h2 k x) ?_)
    exact Ev.congr (f := fun _ => some true) (fun k => by simp) (Ev.now _)
end Go.Proofs.YtmbffgkejknfaaaGreatDoor.Pure
