/- The law FnExactStepsOfSign, plainly: for every sign the program's and the reference's functions return the same number and the same bool. -/
import Derived.Test.YtihibilkmjpmdaaGreatDoorWalkFnExactStepsOfSign
import Derived.Test.YtihibilkmjpmdaaGreatDoorPAx19
import Derived.Test.YtihibilkmjpmdaaGreatDoorQSigns
namespace Go.Proofs.YtihibilkmjpmdaaGreatDoor.PA
open Go.RowKit Go.Proofs.YtihibilkmjpmdaaGreatDoorW.PrintWords Go.Proofs.YtihibilkmjpmdaaGreatDoorW.PrintLast Go.Proofs.YtihibilkmjpmdaaGreatDoorW.PrintMore
section
variable (t i m r l : Int) (s : Bool) (p f g d : Int) (c : Bool) (b : ByteArray) (n : Int) (w : Bool) (t' i' m' r' l' : Int) (s' : Bool) (p' f' g' d' : Int) (c' : Bool) (b' : ByteArray) (n' : Int)
/-- The steps of the hand that has more. -/
def sgSteps : Int := if ((mvSt b n).size : Int) > ((mvSt b' n').size : Int) then ((mvSt b n).size : Int) else ((mvSt b' n').size : Int)
theorem sg_mv (h : sgOK t i m r l s p f g d c b n w t' i' m' r' l' s' p' f' g' d' c' b' n' = true) : (b.size ≤ 6 ∧ 0 ≤ n ∧ n ≤ 3) ∧ (b'.size ≤ 6 ∧ 0 ≤ n' ∧ n' ≤ 3) := by
  unfold sgOK at h
  rw [Bool.and_eq_true] at h
  refine ⟨hdOK_mv h.1, ?_⟩
  have h2 := h.2
  cases w
  · rw [if_neg (by decide)] at h2
    unfold noHd at h2
    simp only [Bool.and_eq_true, beq_iff_eq] at h2
    obtain ⟨_, _, _, e, rfl⟩ := h2
    have : b'.size = 0 := by
      rw [← bs_list] at e
      show b'.data.size = 0
      rw [← Array.length_toList, e]; rfl
    exact ⟨by omega, by omega, by omega⟩
  · rw [if_pos rfl, Bool.and_eq_true] at h2
    exact hdOK_mv h2.1
theorem spec_StepsOfSign_ev (hb : b.size ≤ 1048576) (hb' : b'.size ≤ 1048576) : Ev (fun k => spec_StepsOfSign.f k t i m r l s p f g d c b n w t' i' m' r' l' s' p' f' g' d' c' b' n') (if sgOK t i m r l s p f g d c b n w t' i' m' r' l' s' p' f' g' d' c' b' n' = true then (sgSteps b n b' n', true) else (0, false)) := by
  unfold spec_StepsOfSign.f
  refine Ev.bind (spec_good_ev t i m r l s p f g d c b n w t' i' m' r' l' s' p' f' g' d' c' b' n' hb hb') ?_
  cases h : sgOK t i m r l s p f g d c b n w t' i' m' r' l' s' p' f' g' d' c' b' n'
  · simp only [Bool.false_eq_true, if_false]; exact Ev.now _
  · simp only [if_true]
    have hm := sg_mv t i m r l s p f g d c b n w t' i' m' r' l' s' p' f' g' d' c' b' n' h
    refine Ev.bind (spec_all_ev hm.1.1 hm.1.2.1 hm.1.2.2) (Ev.bind (spec_all_ev hm.2.1 hm.2.2.1 hm.2.2.2) ?_)
    unfold spec_l1Most.f sgSteps
    split <;> exact Ev.now _
theorem impl_StepsOfSign_ev (hb : b.size ≤ 1048576) (hb' : b'.size ≤ 1048576) : Ev (fun k => impl_StepsOfSign.f k t i m r l s p f g d c b n w t' i' m' r' l' s' p' f' g' d' c' b' n') (if sgOK t i m r l s p f g d c b n w t' i' m' r' l' s' p' f' g' d' c' b' n' = true then (sgSteps b n b' n', true) else (0, false)) := by
  unfold impl_StepsOfSign.f
  refine Ev.bind (impl_sign_ev t i m r l s p f g d c b n w t' i' m' r' l' s' p' f' g' d' c' b' n' hb hb') ?_
  cases h : sgOK t i m r l s p f g d c b n w t' i' m' r' l' s' p' f' g' d' c' b' n'
  · simp only [Bool.false_eq_true, if_false]; exact Ev.now _
  · simp only [if_true]
    have hm := sg_mv t i m r l s p f g d c b n w t' i' m' r' l' s' p' f' g' d' c' b' n' h
    simp only [impl_Sign_steps.f, impl_all' hm.1.1 hm.1.2.1 hm.1.2.2, impl_all' hm.2.1 hm.2.2.1 hm.2.2.2, Option.bind_some]
    have e : mx ((mvSt b n).size : Int) ((mvSt b' n').size : Int) = sgSteps b n b' n' := by unfold mx sgSteps; split <;> split <;> omega
    rw [e]; exact Ev.now _
end
end Go.Proofs.YtihibilkmjpmdaaGreatDoor.PA
namespace Go.Proofs.YtihibilkmjpmdaaGreatDoor.Pure
open Go.RowKit Go.Proofs.YtihibilkmjpmdaaGreatDoor.PA Go.Proofs.YtihibilkmjpmdaaGreatDoorW.PrintWords Go.Proofs.YtihibilkmjpmdaaGreatDoorW.PrintLast Go.Proofs.YtihibilkmjpmdaaGreatDoorW.PrintMore
theorem FnExactStepsOfSign : laws_FnExactStepsOfSign.Pure := by
  rintro ⟨⟨⟨t, i, m, r, l, s⟩, ⟨p, f⟩, ⟨g, d, c⟩, ⟨b, n⟩⟩, w, ⟨⟨t', i', m', r', l', s'⟩, ⟨p', f'⟩, ⟨g', d', c'⟩, ⟨b', n'⟩⟩⟩ hV
  have hb : b.size ≤ 9223372036854775807 := hV.1.2.2.2.1
  have hb' : b'.size ≤ 9223372036854775807 := hV.2.2.2.2.2.1
  refine Ev.rounds (g := fun k => laws_FnExactStepsOfSign.f k t i m r l s p f g d c b n w t' i' m' r' l' s' p' f' g' d' c' b' n') (r := true) ?_
  unfold laws_FnExactStepsOfSign.f
  obtain ⟨v, e, hv⟩ := sz_sign t i m r l s p f g d c b n w t' i' m' r' l' s' p' f' g' d' c' b' n' 1048576 (by omega) (by omega) hb hb'
  simp only [e, Option.bind_some, to_sign]
  rcases hv with hv | ⟨h0, _, h1, h2⟩
  · exact Ev.congr (f := fun _ => some true) (fun k => by rw [if_pos hv]) (Ev.now _)
  · simp only [if_neg (show ¬ v < 0 by omega)]
    refine Ev.bind (spec_StepsOfSign_ev t i m r l s p f g d c b n w t' i' m' r' l' s' p' f' g' d' c' b' n' h1 h2) (Ev.bind (impl_StepsOfSign_ev t i m r l s p f g d c b n w t' i' m' r' l' s' p' f' g' d' c' b' n' h1 h2) ?_)
    exact Ev.congr (f := fun _ => some true) (fun k => by simp) (Ev.now _)
end Go.Proofs.YtihibilkmjpmdaaGreatDoor.Pure
