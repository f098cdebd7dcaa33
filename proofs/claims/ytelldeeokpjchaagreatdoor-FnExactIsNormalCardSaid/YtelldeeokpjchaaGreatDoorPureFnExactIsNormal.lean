/- The law FnExactIsNormal, plainly: the program's and the reference's functions return the same two bools. -/
import Derived.Test.YtelldeeokpjchaaGreatDoorWalkFnExactIsNormal
import Derived.Test.YtelldeeokpjchaaGreatDoorPAx20
import Derived.Test.YtelldeeokpjchaaGreatDoorPAx19
import Derived.Test.YtelldeeokpjchaaGreatDoorQSigns
namespace Go.Proofs.YtelldeeokpjchaaGreatDoor.PA
open Go.RowKit Go.Proofs.YtelldeeokpjchaaGreatDoorW.PrintWords Go.Proofs.YtelldeeokpjchaaGreatDoorW.PrintLast Go.Proofs.YtelldeeokpjchaaGreatDoorW.PrintMore
set_option linter.unusedVariables false
set_option linter.unusedSimpArgs false
section
variable (t i m r l : Int) (s : Bool) (p f g d : Int) (c : Bool) (b : ByteArray) (n : Int) (w : Bool) (t' i' m' r' l' : Int) (s' : Bool) (p' f' g' d' : Int) (c' : Bool) (b' : ByteArray) (n' : Int)
theorem both_ev (hb : b.size ≤ 1048576) (hb' : b'.size ≤ 1048576) : ∃ x, Ev (fun k => spec_IsNormal.f k t i m r l s p f g d c b n w t' i' m' r' l' s' p' f' g' d' c' b' n') x ∧ Ev (fun k => impl_IsNormal.f k t i m r l s p f g d c b n w t' i' m' r' l' s' p' f' g' d' c' b' n') x := by
  unfold spec_IsNormal.f impl_IsNormal.f
  have q1 := spec_good_ev t i m r l s p f g d c b n w t' i' m' r' l' s' p' f' g' d' c' b' n' hb hb'
  have q2 := impl_sign_ev t i m r l s p f g d c b n w t' i' m' r' l' s' p' f' g' d' c' b' n' hb hb'
  cases h : sgOK t i m r l s p f g d c b n w t' i' m' r' l' s' p' f' g' d' c' b' n'
  · rw [h] at q1 q2
    refine ⟨(false, false), Ev.bind q1 ?_, Ev.bind q2 ?_⟩ <;> (simp only [Bool.false_eq_true, if_false]; exact Ev.now _)
  · rw [h] at q1 q2
    obtain ⟨n1, n2, n3⟩ := sgOK_nf t i m r l s p f g d c b n w t' i' m' r' l' s' p' f' g' d' c' b' n' h
    refine ⟨(snEq (noV t i m r l s p f g d c b n w t' i' m' r' l' s' p' f' g' d' c' b' n') (t, i, m, r, l, s, p, f, g, d, c, b, n, w, t', i', m', r', l', s', p', f', g', d', c', b', n'), true), Ev.bind q1 ?_, Ev.bind q2 ?_⟩
    · simp only [if_true]; exact Ev.bind (spec_norm_ev t i m r l s p f g d c b n w t' i' m' r' l' s' p' f' g' d' c' b' n' n1 n2) (Ev.now _)
    · simp only [if_true]; exact Ev.bind (impl_norm_ev t i m r l s p f g d c b n w t' i' m' r' l' s' p' f' g' d' c' b' n' n1 n2 n3) (Ev.now _)
end
end Go.Proofs.YtelldeeokpjchaaGreatDoor.PA
namespace Go.Proofs.YtelldeeokpjchaaGreatDoor.Pure
open Go.RowKit Go.Proofs.YtelldeeokpjchaaGreatDoor.PA Go.Proofs.YtelldeeokpjchaaGreatDoorW.PrintWords Go.Proofs.YtelldeeokpjchaaGreatDoorW.PrintLast Go.Proofs.YtelldeeokpjchaaGreatDoorW.PrintMore
theorem FnExactIsNormal : laws_FnExactIsNormal.Pure := by
  rintro ⟨⟨⟨t, i, m, r, l, s⟩, ⟨p, f⟩, ⟨g, d, c⟩, ⟨b, n⟩⟩, w, ⟨⟨t', i', m', r', l', s'⟩, ⟨p', f'⟩, ⟨g', d', c'⟩, ⟨b', n'⟩⟩⟩ hV
  have hb : b.size ≤ 9223372036854775807 := hV.1.2.2.2.1
  have hb' : b'.size ≤ 9223372036854775807 := hV.2.2.2.2.2.1
  refine Ev.rounds (g := fun k => laws_FnExactIsNormal.f k t i m r l s p f g d c b n w t' i' m' r' l' s' p' f' g' d' c' b' n') (r := true) ?_
  unfold laws_FnExactIsNormal.f
  obtain ⟨v, e, hv⟩ := sz_sign t i m r l s p f g d c b n w t' i' m' r' l' s' p' f' g' d' c' b' n' 1048576 (by omega) (by omega) hb hb'
  simp only [e, Option.bind_some, to_sign]
  rcases hv with hv | ⟨h0, _, h1, h2⟩
  · exact Ev.congr (f := fun _ => some true) (fun k => by rw [if_pos hv]) (Ev.now _)
  · simp only [if_neg (show ¬ v < 0 by omega)]
    obtain ⟨x, hx, hy⟩ := both_ev t i m r l s p f g d c b n w t' i' m' r' l' s' p' f' g' d' c' b' n' h1 h2
    refine Ev.bind hx (Ev.bind hy ?_)
    exact Ev.congr (f := fun _ => some true) (fun k => by simp only [if_true, beq_self_eq_true]) (Ev.now _)
end Go.Proofs.YtelldeeokpjchaaGreatDoor.Pure
