/- The law FnExactMirrorSign, plainly: the program's and the reference's functions return the same sign and the same bool. -/
import Derived.Test.YtmbffgkejknfaaaGreatDoorWalkFnExactMirrorSign
import Derived.Test.YtmbffgkejknfaaaGreatDoorPAx12
import Derived.Test.YtmbffgkejknfaaaGreatDoorPAx11
import Derived.Test.YtmbffgkejknfaaaGreatDoorQSigns
import Derived.Test.YtmbffgkejknfaaaGreatDoorQEqSign
namespace Go.Proofs.YtmbffgkejknfaaaGreatDoor.PA
open Go.RowKit Go.Proofs.YtmbffgkejknfaaaGreatDoorW.PrintWords Go.Proofs.YtmbffgkejknfaaaGreatDoorW.PrintLast Go.Proofs.YtmbffgkejknfaaaGreatDoorW.PrintMore
theorem bs_nil {b : ByteArray} (h : b.toList = []) : b = ⟨#[]⟩ := by
  rw [ByteArray.toList_eq] at h
  exact bs_ext (by rw [h])
section
variable (t i m r l : Int) (s : Bool) (p f g d : Int) (c : Bool) (b : ByteArray) (n : Int) (w : Bool) (t' i' m' r' l' : Int) (s' : Bool) (p' f' g' d' : Int) (c' : Bool) (b' : ByteArray) (n' : Int)
/-- A hand in the mirror. -/
def mirHd : Int × Int × Int × Int × Int × Bool × Int × Int × Int × Int × Bool × ByteArray × Int := (t, i, m, r, l, s, orSw p, orSw f, g, wrap64 (0 - d), c, mirS b, n)
theorem spec_noHand_ev (hb : b.size ≤ 1000000) : Ev (fun k => spec_noMirrorHand.f k t i m r l s p f g d c b n) (mirHd t i m r l s p f g d c b n) := by
  unfold spec_noMirrorHand.f
  simp only [spec_or_mirror, Option.bind_some, spec_plMirror.f]
  exact Ev.bind (spec_mirror_ev b n hb) (Ev.now _)
theorem impl_hand_mir (hb : b.size ≤ 1000000) : impl_Hand_mirrored.f t i m r l s p f g d c b n = some (mirHd t i m r l s p f g d c b n) := by
  unfold impl_Hand_mirrored.f
  simp only [impl_or_mirror, Option.bind_some, impl_mirror b n hb]
  rfl
/-- The sign in the mirror. -/
def mirV : SgT := if sgOK t i m r l s p f g d c b n w t' i' m' r' l' s' p' f' g' d' c' b' n' = true then (if w = true then (t, i, m, r, l, s, orSw p, orSw f, g, wrap64 (0 - d), c, mirS b, n, true, t', i', m', r', l', s', orSw p', orSw f', g', wrap64 (0 - d'), c', mirS b', n', true) else (t, i, m, r, l, s, orSw p, orSw f, g, wrap64 (0 - d), c, mirS b, n, false, 0, 0, 0, 0, 0, false, 0, 0, 0, 0, false, (⟨#[]⟩ : ByteArray), 0, true)) else sgZ
theorem sg_size (h : sgOK t i m r l s p f g d c b n w t' i' m' r' l' s' p' f' g' d' c' b' n' = true) : b.size ≤ 1000000 ∧ (w = true → b'.size ≤ 1000000) ∧ (w = false → noHd t' i' m' r' l' s' p' f' g' d' c' b' n' = true) := by
  unfold sgOK at h
  rw [Bool.and_eq_true] at h
  have := (hdOK_mv h.1).1
  refine ⟨by omega, fun e => ?_, fun e => ?_⟩
  · subst e
    have h2 := h.2
    simp only [if_true, Bool.and_eq_true] at h2
    have := (hdOK_mv h2.1).1
    omega
  · subst e
    simpa using h.2
theorem spec_MirrorSign_ev (hb : b.size ≤ 1048576) (hb' : b'.size ≤ 1048576) : Ev (fun k => spec_MirrorSign.f k t i m r l s p f g d c b n w t' i' m' r' l' s' p' f' g' d' c' b' n') (mirV t i m r l s p f g d c b n w t' i' m' r' l' s' p' f' g' d' c' b' n') := by
  unfold spec_MirrorSign.f mirV
  refine Ev.bind (spec_good_ev t i m r l s p f g d c b n w t' i' m' r' l' s' p' f' g' d' c' b' n' hb hb') ?_
  cases h : sgOK t i m r l s p f g d c b n w t' i' m' r' l' s' p' f' g' d' c' b' n'
  · simp only [Bool.false_eq_true, if_false]; exact Ev.now _
  · obtain ⟨h1, h2, _⟩ := sg_size t i m r l s p f g d c b n w t' i' m' r' l' s' p' f' g' d' c' b' n' h
    simp only [if_true]
    unfold spec_noMirror.f
    cases w
    · simp only [Bool.false_eq_true, if_false]
      refine Ev.bind (Ev.bind (spec_noHand_ev t i m r l s p f g d c b n h1) (Ev.now _)) (Ev.now _)
    · simp only [if_true]
      refine Ev.bind (Ev.bind (spec_noHand_ev t i m r l s p f g d c b n h1) (Ev.bind (spec_noHand_ev t' i' m' r' l' s' p' f' g' d' c' b' n' (h2 rfl)) (Ev.now _))) (Ev.now _)
theorem impl_MirrorSign_ev (hb : b.size ≤ 1048576) (hb' : b'.size ≤ 1048576) : Ev (fun k => impl_MirrorSign.f k t i m r l s p f g d c b n w t' i' m' r' l' s' p' f' g' d' c' b' n') (mirV t i m r l s p f g d c b n w t' i' m' r' l' s' p' f' g' d' c' b' n') := by
  unfold impl_MirrorSign.f mirV
  refine Ev.bind (impl_sign_ev t i m r l s p f g d c b n w t' i' m' r' l' s' p' f' g' d' c' b' n' hb hb') ?_
  cases h : sgOK t i m r l s p f g d c b n w t' i' m' r' l' s' p' f' g' d' c' b' n'
  · simp only [Bool.false_eq_true, if_false]; exact Ev.now _
  · obtain ⟨h1, h2, h3⟩ := sg_size t i m r l s p f g d c b n w t' i' m' r' l' s' p' f' g' d' c' b' n' h
    simp only [if_true]
    unfold impl_Sign_mirrored.f
    cases w
    · have h3 := h3 rfl
      unfold noHd at h3
      simp only [Bool.and_eq_true, beq_iff_eq, Bool.not_eq_true'] at h3
      obtain ⟨⟨rfl, rfl, rfl, rfl, rfl, rfl⟩, ⟨rfl, rfl⟩, ⟨rfl, rfl, rfl⟩, hbn, rfl⟩ := h3
      obtain rfl := bs_nil hbn
      simp only [Bool.false_eq_true, if_false, impl_hand_mir t i m r l s p f g d c b n h1, Option.bind_some]
      exact Ev.now _
    · simp only [if_true, impl_hand_mir t i m r l s p f g d c b n h1, impl_hand_mir t' i' m' r' l' s' p' f' g' d' c' b' n' (h2 rfl), Option.bind_some]
      exact Ev.now _
end
end Go.Proofs.YtmbffgkejknfaaaGreatDoor.PA
namespace Go.Proofs.YtmbffgkejknfaaaGreatDoor.Pure
open Go.RowKit Go.Proofs.YtmbffgkejknfaaaGreatDoor.PA Go.Proofs.YtmbffgkejknfaaaGreatDoorW.PrintWords Go.Proofs.YtmbffgkejknfaaaGreatDoorW.PrintLast Go.Proofs.YtmbffgkejknfaaaGreatDoorW.PrintMore
theorem FnExactMirrorSign : laws_FnExactMirrorSign.Pure := by
  rintro ⟨⟨⟨t, i, m, r, l, s⟩, ⟨p, f⟩, ⟨g, d, c⟩, ⟨b, n⟩⟩, w, ⟨⟨t', i', m', r', l', s'⟩, ⟨p', f'⟩, ⟨g', d', c'⟩, ⟨b', n'⟩⟩⟩ hV
  have hb : b.size ≤ 9223372036854775807 := hV.1.2.2.2.1
  have hb' : b'.size ≤ 9223372036854775807 := hV.2.2.2.2.2.1
  refine Ev.rounds (g := fun k => laws_FnExactMirrorSign.f k t i m r l s p f g d c b n w t' i' m' r' l' s' p' f' g' d' c' b' n') (r := true) ?_
  unfold laws_FnExactMirrorSign.f
  obtain ⟨v, e, hv⟩ := sz_sign t i m r l s p f g d c b n w t' i' m' r' l' s' p' f' g' d' c' b' n' 1048576 (by omega) (by omega) hb hb'
  simp only [e, Option.bind_some, to_sign]
  rcases hv with hv | ⟨h0, _, h1, h2⟩
  · exact Ev.congr (f := fun _ => some true) (fun k => by rw [if_pos hv]) (Ev.now _)
  · simp only [if_neg (show ¬ v < 0 by omega)]
    refine Ev.bind (spec_MirrorSign_ev t i m r l s p f g d c b n w t' i' m' r' l' s' p' f' g' d' c' b' n' h1 h2) (Ev.bind (impl_MirrorSign_ev t i m r l s p f g d c b n w t' i' m' r' l' s' p' f' g' d' c' b' n' h1 h2) ?_)
    exact Ev.congr (f := fun _ => some true) (fun k => by simp only [eq_sign, Option.bind_some, if_true, beq_self_eq_true, bne_self_eq_false, Bool.false_eq_true, if_false]) (Ev.now _)
end Go.Proofs.YtmbffgkejknfaaaGreatDoor.Pure
