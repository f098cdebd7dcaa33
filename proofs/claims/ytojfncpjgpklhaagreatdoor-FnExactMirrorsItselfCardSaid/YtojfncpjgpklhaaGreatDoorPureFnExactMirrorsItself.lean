/- The law FnExactMirrorsItself, plainly: the program's and the reference's functions return the same two bools. -/
import Derived.Test.YtojfncpjgpklhaaGreatDoorWalkFnExactMirrorsItself
import Derived.Test.YtojfncpjgpklhaaGreatDoorPAx14
import Derived.Test.YtojfncpjgpklhaaGreatDoorPAx12
import Derived.Test.YtojfncpjgpklhaaGreatDoorQSigns
namespace Go.Proofs.YtojfncpjgpklhaaGreatDoor.PA
open Go.RowKit Go.Proofs.YtojfncpjgpklhaaGreatDoorW.PrintWords Go.Proofs.YtojfncpjgpklhaaGreatDoorW.PrintLast Go.Proofs.YtojfncpjgpklhaaGreatDoorW.PrintMore
set_option linter.unusedVariables false
set_option linter.unusedSimpArgs false
section
variable (t i m r l : Int) (s : Bool) (p f g d : Int) (c : Bool) (b : ByteArray) (n : Int) (w : Bool) (t' i' m' r' l' : Int) (s' : Bool) (p' f' g' d' : Int) (c' : Bool) (b' : ByteArray) (n' : Int)
/-- A hand in the mirror. -/
def mirHd : Int × Int × Int × Int × Int × Bool × Int × Int × Int × Int × Bool × ByteArray × Int := (t, i, m, r, l, s, orSw p, orSw f, g, wrap64 (0 - d), c, mirS b, n)
theorem spec_mirHd_ev (hb : b.size ≤ 1000000) : Ev (fun k => spec_noMirrorHand.f k t i m r l s p f g d c b n) (mirHd t i m r l s p f g d c b n) := by
  unfold spec_noMirrorHand.f
  simp only [spec_or_mirror, Option.bind_some, spec_plMirror.f]
  exact Ev.bind (spec_mirror_ev b n hb) (Ev.now _)
theorem impl_mirHd (hb : b.size ≤ 1000000) : impl_Hand_mirrored.f t i m r l s p f g d c b n = some (mirHd t i m r l s p f g d c b n) := by
  unfold impl_Hand_mirrored.f
  simp only [impl_or_mirror, Option.bind_some, impl_mirror b n hb]
  rfl
theorem nf_mir (h : NfOK t i m r l p f g d b n) : NfOK t i m r l (orSw p) (orSw f) g (wrap64 (0 - d)) (mirS b) n := by
  have o : ∀ x, 0 ≤ x ∧ x ≤ 5 → 0 ≤ orSw x ∧ orSw x ≤ 5 := by
    intro x hx
    rcases six x hx with rfl | rfl | rfl | rfl | rfl | rfl <;> decide
  have e : wrap64 (0 - d) = 0 - d := w64_i (by have := h.2.2.1.2; omega) (by have := h.2.2.1.2; omega)
  refine ⟨h.1, ⟨o _ h.2.1.1, o _ h.2.1.2⟩, ⟨h.2.2.1.1, ?_⟩, ?_⟩
  · rw [e]; have := h.2.2.1.2; omega
  · rw [mirS_size]; exact h.2.2.2
theorem both_ev (hb : b.size ≤ 1048576) (hb' : b'.size ≤ 1048576) : ∃ x, Ev (fun k => spec_MirrorsItself.f k t i m r l s p f g d c b n w t' i' m' r' l' s' p' f' g' d' c' b' n') x ∧ Ev (fun k => impl_MirrorsItself.f k t i m r l s p f g d c b n w t' i' m' r' l' s' p' f' g' d' c' b' n') x := by
  unfold spec_MirrorsItself.f impl_MirrorsItself.f
  have q1 := spec_good_ev t i m r l s p f g d c b n w t' i' m' r' l' s' p' f' g' d' c' b' n' hb hb'
  have q2 := impl_sign_ev t i m r l s p f g d c b n w t' i' m' r' l' s' p' f' g' d' c' b' n' hb hb'
  cases h : sgOK t i m r l s p f g d c b n w t' i' m' r' l' s' p' f' g' d' c' b' n'
  · rw [h] at q1 q2
    refine ⟨(false, false), Ev.bind q1 ?_, Ev.bind q2 ?_⟩ <;> (simp only [Bool.false_eq_true, if_false]; exact Ev.now _)
  · rw [h] at q1 q2
    obtain ⟨n1, n2, n3⟩ := sgOK_nf t i m r l s p f g d c b n w t' i' m' r' l' s' p' f' g' d' c' b' n' h
    have c1 : b.size ≤ 1000000 := by have := n1.2.2.2.1; omega
    cases w
    · refine ⟨(snEq (noV t i m r l s p f g d c b n false t' i' m' r' l' s' p' f' g' d' c' b' n') (noV t i m r l s (orSw p) (orSw f) g (wrap64 (0 - d)) c (mirS b) n false 0 0 0 0 0 false 0 0 0 0 false (⟨#[]⟩ : ByteArray) 0), true), Ev.bind q1 ?_, Ev.bind q2 ?_⟩
      · simp only [if_true]
        unfold spec_noMirror.f
        simp only [Bool.false_eq_true, if_false]
        refine Ev.bind (Ev.bind (spec_mirHd_ev t i m r l s p f g d c b n c1) (Ev.now _)) ?_
        unfold spec_noSame.f
        exact Ev.bind (Ev.bind (spec_norm_ev t i m r l s p f g d c b n false t' i' m' r' l' s' p' f' g' d' c' b' n' n1 n2) (Ev.bind (spec_norm_ev t i m r l s (orSw p) (orSw f) g (wrap64 (0 - d)) c (mirS b) n false 0 0 0 0 0 false 0 0 0 0 false (⟨#[]⟩ : ByteArray) 0 (nf_mir t i m r l p f g d b n n1) (fun e => nomatch e)) (Ev.now _))) (Ev.now _)
      · simp only [if_true]
        refine Ev.bind (impl_norm_ev t i m r l s p f g d c b n false t' i' m' r' l' s' p' f' g' d' c' b' n' n1 n2 n3) ?_
        unfold impl_Sign_mirrored.f
        have h3 := n3 rfl
        unfold noHd at h3
        simp only [Bool.and_eq_true, beq_iff_eq, Bool.not_eq_true'] at h3
        obtain ⟨⟨rfl, rfl, rfl, rfl, rfl, rfl⟩, ⟨rfl, rfl⟩, ⟨rfl, rfl, rfl⟩, hbn, rfl⟩ := h3
        obtain rfl := bs_nil hbn
        simp only [Bool.false_eq_true, if_false, impl_mirHd t i m r l s p f g d c b n c1, Option.bind_some]
        exact Ev.bind (impl_norm_ev t i m r l s (orSw p) (orSw f) g (wrap64 (0 - d)) c (mirS b) n false 0 0 0 0 0 false 0 0 0 0 false (⟨#[]⟩ : ByteArray) 0 (nf_mir t i m r l p f g d b n n1) (fun e => nomatch e) (fun _ => n3 rfl)) (Ev.now _)
    · have c2 : b'.size ≤ 1000000 := by have := (n2 rfl).2.2.2.1; omega
      refine ⟨(snEq (noV t i m r l s p f g d c b n true t' i' m' r' l' s' p' f' g' d' c' b' n') (noV t i m r l s (orSw p) (orSw f) g (wrap64 (0 - d)) c (mirS b) n true t' i' m' r' l' s' (orSw p') (orSw f') g' (wrap64 (0 - d')) c' (mirS b') n'), true), Ev.bind q1 ?_, Ev.bind q2 ?_⟩
      · simp only [if_true]
        unfold spec_noMirror.f
        simp only [if_true]
        refine Ev.bind (Ev.bind (spec_mirHd_ev t i m r l s p f g d c b n c1) (Ev.bind (spec_mirHd_ev t' i' m' r' l' s' p' f' g' d' c' b' n' c2) (Ev.now _))) ?_
        unfold spec_noSame.f
        exact Ev.bind (Ev.bind (spec_norm_ev t i m r l s p f g d c b n true t' i' m' r' l' s' p' f' g' d' c' b' n' n1 n2) (Ev.bind (spec_norm_ev t i m r l s (orSw p) (orSw f) g (wrap64 (0 - d)) c (mirS b) n true t' i' m' r' l' s' (orSw p') (orSw f') g' (wrap64 (0 - d')) c' (mirS b') n' (nf_mir t i m r l p f g d b n n1) (fun _ => nf_mir t' i' m' r' l' p' f' g' d' b' n' (n2 rfl))) (Ev.now _))) (Ev.now _)
      · simp only [if_true]
        refine Ev.bind (impl_norm_ev t i m r l s p f g d c b n true t' i' m' r' l' s' p' f' g' d' c' b' n' n1 n2 n3) ?_
        unfold impl_Sign_mirrored.f
        simp only [if_true, impl_mirHd t i m r l s p f g d c b n c1, impl_mirHd t' i' m' r' l' s' p' f' g' d' c' b' n' c2, Option.bind_some]
        exact Ev.bind (impl_norm_ev t i m r l s (orSw p) (orSw f) g (wrap64 (0 - d)) c (mirS b) n true t' i' m' r' l' s' (orSw p') (orSw f') g' (wrap64 (0 - d')) c' (mirS b') n' (nf_mir t i m r l p f g d b n n1) (fun _ => nf_mir t' i' m' r' l' p' f' g' d' b' n' (n2 rfl)) (fun e => nomatch e)) (Ev.now _)
end
end Go.Proofs.YtojfncpjgpklhaaGreatDoor.PA
namespace Go.Proofs.YtojfncpjgpklhaaGreatDoor.Pure
open Go.RowKit Go.Proofs.YtojfncpjgpklhaaGreatDoor.PA Go.Proofs.YtojfncpjgpklhaaGreatDoorW.PrintWords Go.Proofs.YtojfncpjgpklhaaGreatDoorW.PrintLast Go.Proofs.YtojfncpjgpklhaaGreatDoorW.PrintMore
theorem FnExactMirrorsItself : laws_FnExactMirrorsItself.Pure := by
  rintro ⟨⟨⟨t, i, m, r, l, s⟩, ⟨p, f⟩, ⟨g, d, c⟩, ⟨b, n⟩⟩, w, ⟨⟨t', i', m', r', l', s'⟩, ⟨p', f'⟩, ⟨g', d', c'⟩, ⟨b', n'⟩⟩⟩ hV
  have hb : b.size ≤ 9223372036854775807 := hV.1.2.2.2.1
  have hb' : b'.size ≤ 9223372036854775807 := hV.2.2.2.2.2.1
  refine Ev.rounds (g := fun k => laws_FnExactMirrorsItself.f k t i m r l s p f g d c b n w t' i' m' r' l' s' p' f' g' d' c' b' n') (r := true) ?_
  unfold laws_FnExactMirrorsItself.f
  obtain ⟨v, e, hv⟩ := sz_sign t i m r l s p f g d c b n w t' i' m' r' l' s' p' f' g' d' c' b' n' 1048576 (by omega) (by omega) hb hb'
  simp only [e, Option.bind_some, to_sign]
  rcases hv with hv | ⟨h0, _, h1, h2⟩
  · exact Ev.congr (f := fun _ => some true) (fun k => by rw [if_pos hv]) (Ev.now _)
  · simp only [if_neg (show ¬ v < 0 by omega)]
    obtain ⟨x, hx, hy⟩ := both_ev t i m r l s p f g d c b n w t' i' m' r' l' s' p' f' g' d' c' b' n' h1 h2
    refine Ev.bind hx (Ev.bind hy ?_)
    exact Ev.congr (f := fun _ => some true) (fun k => by simp only [if_true, beq_self_eq_true]) (Ev.now _)
end Go.Proofs.YtojfncpjgpklhaaGreatDoor.Pure
