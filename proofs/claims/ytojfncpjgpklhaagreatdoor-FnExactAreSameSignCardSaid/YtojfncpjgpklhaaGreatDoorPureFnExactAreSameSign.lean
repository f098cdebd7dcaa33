/- The law FnExactAreSameSign, plainly: the program's and the reference's functions return the same two bools. -/
import Derived.Test.YtojfncpjgpklhaaGreatDoorWalkFnExactAreSameSign
import Derived.Test.YtojfncpjgpklhaaGreatDoorPAx13
import Derived.Test.YtojfncpjgpklhaaGreatDoorPAx12
import Derived.Test.YtojfncpjgpklhaaGreatDoorQSigns
namespace Go.Proofs.YtojfncpjgpklhaaGreatDoor.PA
open Go.RowKit Go.Proofs.YtojfncpjgpklhaaGreatDoorW.PrintWords Go.Proofs.YtojfncpjgpklhaaGreatDoorW.PrintLast Go.Proofs.YtojfncpjgpklhaaGreatDoorW.PrintMore
set_option linter.unusedVariables false
set_option linter.unusedSimpArgs false
section
variable (t i m r l : Int) (s : Bool) (p f g d : Int) (c : Bool) (b : ByteArray) (n : Int) (w : Bool) (t' i' m' r' l' : Int) (s' : Bool) (p' f' g' d' : Int) (c' : Bool) (b' : ByteArray) (n' : Int)
variable (T I M R L : Int) (S : Bool) (P F G D : Int) (C : Bool) (B : ByteArray) (N : Int) (W : Bool) (T' I' M' R' L' : Int) (S' : Bool) (P' F' G' D' : Int) (C' : Bool) (B' : ByteArray) (N' : Int)
theorem both_ev (hb : b.size ≤ 1048576) (hb' : b'.size ≤ 1048576) (hB : B.size ≤ 1048576) (hB' : B'.size ≤ 1048576) : ∃ x, Ev (fun k => spec_AreSameSign.f k t i m r l s p f g d c b n w t' i' m' r' l' s' p' f' g' d' c' b' n' T I M R L S P F G D C B N W T' I' M' R' L' S' P' F' G' D' C' B' N') x ∧ Ev (fun k => impl_AreSameSign.f k t i m r l s p f g d c b n w t' i' m' r' l' s' p' f' g' d' c' b' n' T I M R L S P F G D C B N W T' I' M' R' L' S' P' F' G' D' C' B' N') x := by
  unfold spec_AreSameSign.f impl_AreSameSign.f
  have q1 := spec_good_ev t i m r l s p f g d c b n w t' i' m' r' l' s' p' f' g' d' c' b' n' hb hb'
  have q2 := impl_sign_ev t i m r l s p f g d c b n w t' i' m' r' l' s' p' f' g' d' c' b' n' hb hb'
  have q3 := spec_good_ev T I M R L S P F G D C B N W T' I' M' R' L' S' P' F' G' D' C' B' N' hB hB'
  have q4 := impl_sign_ev T I M R L S P F G D C B N W T' I' M' R' L' S' P' F' G' D' C' B' N' hB hB'
  have hj : Ev (fun k => impl_AreSameSign.j0 k true t i m r l s p f g d c b n w t' i' m' r' l' s' p' f' g' d' c' b' n' T I M R L S P F G D C B N W T' I' M' R' L' S' P' F' G' D' C' B' N') (false, false) := Ev.step (f := fun _ => some (false, false)) (fun k => by simp only [impl_AreSameSign.j0, if_true]) (Ev.now _)
  cases h : sgOK t i m r l s p f g d c b n w t' i' m' r' l' s' p' f' g' d' c' b' n'
  · rw [h] at q1 q2
    refine ⟨(false, false), Ev.bind q1 ?_, Ev.bind q2 ?_⟩ <;> simp only [Bool.false_eq_true, if_false]
    · exact Ev.now _
    · exact hj
  · rw [h] at q1 q2
    obtain ⟨n1, n2, n3⟩ := sgOK_nf t i m r l s p f g d c b n w t' i' m' r' l' s' p' f' g' d' c' b' n' h
    cases h' : sgOK T I M R L S P F G D C B N W T' I' M' R' L' S' P' F' G' D' C' B' N'
    · rw [h'] at q3 q4
      refine ⟨(false, false), Ev.bind q1 ?_, Ev.bind q2 ?_⟩ <;> simp only [if_true]
      · refine Ev.bind q3 ?_; simp only [Bool.false_eq_true, if_false]; exact Ev.now _
      · exact Ev.bind q4 hj
    · rw [h'] at q3 q4
      obtain ⟨m1, m2, m3⟩ := sgOK_nf T I M R L S P F G D C B N W T' I' M' R' L' S' P' F' G' D' C' B' N' h'
      refine ⟨(snEq (noV t i m r l s p f g d c b n w t' i' m' r' l' s' p' f' g' d' c' b' n') (noV T I M R L S P F G D C B N W T' I' M' R' L' S' P' F' G' D' C' B' N'), true), Ev.bind q1 ?_, Ev.bind q2 ?_⟩ <;> simp only [if_true]
      · refine Ev.bind q3 ?_
        simp only [if_true]
        unfold spec_noSame.f
        exact Ev.bind (Ev.bind (spec_norm_ev t i m r l s p f g d c b n w t' i' m' r' l' s' p' f' g' d' c' b' n' n1 n2) (Ev.bind (spec_norm_ev T I M R L S P F G D C B N W T' I' M' R' L' S' P' F' G' D' C' B' N' m1 m2) (Ev.now _))) (Ev.now _)
      · refine Ev.bind q4 ?_
        refine Ev.step (fun k => by simp only [impl_AreSameSign.j0, Bool.not_true, Bool.false_eq_true, if_false]; exact rfl) ?_
        exact Ev.bind (impl_norm_ev t i m r l s p f g d c b n w t' i' m' r' l' s' p' f' g' d' c' b' n' n1 n2 n3) (Ev.bind (impl_norm_ev T I M R L S P F G D C B N W T' I' M' R' L' S' P' F' G' D' C' B' N' m1 m2 m3) (Ev.now _))
end
end Go.Proofs.YtojfncpjgpklhaaGreatDoor.PA
namespace Go.Proofs.YtojfncpjgpklhaaGreatDoor.Pure
open Go.RowKit Go.Proofs.YtojfncpjgpklhaaGreatDoor.PA Go.Proofs.YtojfncpjgpklhaaGreatDoorW.PrintWords Go.Proofs.YtojfncpjgpklhaaGreatDoorW.PrintLast Go.Proofs.YtojfncpjgpklhaaGreatDoorW.PrintMore
theorem FnExactAreSameSign : laws_FnExactAreSameSign.Pure := by
  rintro ⟨⟨⟨t, i, m, r, l, s⟩, ⟨p, f⟩, ⟨g, d, c⟩, ⟨b, n⟩⟩, w, ⟨⟨t', i', m', r', l', s'⟩, ⟨p', f'⟩, ⟨g', d', c'⟩, ⟨b', n'⟩⟩⟩ ⟨⟨⟨T, I, M, R, L, S⟩, ⟨P, F⟩, ⟨G, D, C⟩, ⟨B, N⟩⟩, W, ⟨⟨T', I', M', R', L', S'⟩, ⟨P', F'⟩, ⟨G', D', C'⟩, ⟨B', N'⟩⟩⟩ hV hW
  have hb : b.size ≤ 9223372036854775807 := hV.1.2.2.2.1
  have hb' : b'.size ≤ 9223372036854775807 := hV.2.2.2.2.2.1
  have hB : B.size ≤ 9223372036854775807 := hW.1.2.2.2.1
  have hB' : B'.size ≤ 9223372036854775807 := hW.2.2.2.2.2.1
  refine Ev.rounds (g := fun k => laws_FnExactAreSameSign.f k t i m r l s p f g d c b n w t' i' m' r' l' s' p' f' g' d' c' b' n' T I M R L S P F G D C B N W T' I' M' R' L' S' P' F' G' D' C' B' N') (r := true) ?_
  unfold laws_FnExactAreSameSign.f
  obtain ⟨v, e, hv⟩ := sz_sign t i m r l s p f g d c b n w t' i' m' r' l' s' p' f' g' d' c' b' n' 1048576 (by omega) (by omega) hb hb'
  simp only [e, Option.bind_some, to_sign]
  rcases hv with hv | ⟨h0, hv2, h1, h2⟩
  · exact Ev.congr (f := fun _ => some true) (fun k => by rw [if_pos hv]) (Ev.now _)
  · simp only [if_neg (show ¬ v < 0 by omega)]
    obtain ⟨v', e', hv'⟩ := sz_sign T I M R L S P F G D C B N W T' I' M' R' L' S' P' F' G' D' C' B' N' v h0 hv2 hB hB'
    simp only [e', Option.bind_some]
    rcases hv' with hv' | ⟨h0', _, h1', h2'⟩
    · exact Ev.congr (f := fun _ => some true) (fun k => by rw [if_pos hv']) (Ev.now _)
    · simp only [if_neg (show ¬ v' < 0 by omega)]
      obtain ⟨x, hx, hy⟩ := both_ev t i m r l s p f g d c b n w t' i' m' r' l' s' p' f' g' d' c' b' n' T I M R L S P F G D C B N W T' I' M' R' L' S' P' F' G' D' C' B' N' h1 h2 h1' h2'
      refine Ev.bind hx (Ev.bind hy ?_)
      exact Ev.congr (f := fun _ => some true) (fun k => by simp only [if_true, beq_self_eq_true]) (Ev.now _)
end Go.Proofs.YtojfncpjgpklhaaGreatDoor.Pure
