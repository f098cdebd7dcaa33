/- The law FnExactSignText, plainly: for every sign the program's and the reference's functions return the same text and the same bool. -/
import Derived.Test.YtelldeeokpjchaaGreatDoorWalkFnExactSignText
import Derived.Test.YtelldeeokpjchaaGreatDoorPAx16
import Derived.Test.YtelldeeokpjchaaGreatDoorQText
import Derived.Test.YtelldeeokpjchaaGreatDoorQSigns
namespace Go.Proofs.YtelldeeokpjchaaGreatDoor.PA
open Go.RowKit Go.Proofs.YtelldeeokpjchaaGreatDoorW.PrintWords Go.Proofs.YtelldeeokpjchaaGreatDoorW.PrintLast Go.Proofs.YtelldeeokpjchaaGreatDoorW.PrintMore
section
variable (t i m r l : Int) (s : Bool) (p f g d : Int) (c : Bool) (b : ByteArray) (n : Int) (w : Bool) (t' i' m' r' l' : Int) (s' : Bool) (p' f' g' d' : Int) (c' : Bool) (b' : ByteArray) (n' : Int)
theorem spec_SignText_ev (hb : b.size ≤ 1048576) (hb' : b'.size ≤ 1048576) : Ev (fun k => spec_SignText.f k t i m r l s p f g d c b n w t' i' m' r' l' s' p' f' g' d' c' b' n') (if sgOK t i m r l s p f g d c b n w t' i' m' r' l' s' p' f' g' d' c' b' n' = true then (sgTxt t i m r l s p f g d c b n w t' i' m' r' l' s' p' f' g' d' c' b' n', true) else ((⟨#[]⟩ : ByteArray), false)) := by
  unfold spec_SignText.f
  refine Ev.bind (spec_good_ev t i m r l s p f g d c b n w t' i' m' r' l' s' p' f' g' d' c' b' n' hb hb') ?_
  cases h : sgOK t i m r l s p f g d c b n w t' i' m' r' l' s' p' f' g' d' c' b' n'
  · simp only [Bool.false_eq_true, if_false]; exact Ev.now _
  · simp only [if_true]
    obtain ⟨h1, h2⟩ := sgOK_tx t i m r l s p f g d c b n w t' i' m' r' l' s' p' f' g' d' c' b' n' h
    exact Ev.bind (spec_sg_txt t i m r l s p f g d c b n w t' i' m' r' l' s' p' f' g' d' c' b' n' h1 h2) (Ev.now _)
theorem impl_SignText_ev (hb : b.size ≤ 1048576) (hb' : b'.size ≤ 1048576) : Ev (fun k => impl_SignText.f k t i m r l s p f g d c b n w t' i' m' r' l' s' p' f' g' d' c' b' n') (if sgOK t i m r l s p f g d c b n w t' i' m' r' l' s' p' f' g' d' c' b' n' = true then (sgTxt t i m r l s p f g d c b n w t' i' m' r' l' s' p' f' g' d' c' b' n', true) else ((⟨#[]⟩ : ByteArray), false)) := by
  unfold impl_SignText.f
  refine Ev.bind (impl_sign_ev t i m r l s p f g d c b n w t' i' m' r' l' s' p' f' g' d' c' b' n' hb hb') ?_
  cases h : sgOK t i m r l s p f g d c b n w t' i' m' r' l' s' p' f' g' d' c' b' n'
  · simp only [Bool.false_eq_true, if_false]; exact Ev.now _
  · simp only [if_true]
    obtain ⟨h1, h2⟩ := sgOK_tx t i m r l s p f g d c b n w t' i' m' r' l' s' p' f' g' d' c' b' n' h
    exact Ev.bind (impl_sg_txt t i m r l s p f g d c b n w t' i' m' r' l' s' p' f' g' d' c' b' n' h1 h2) (Ev.now _)
end
end Go.Proofs.YtelldeeokpjchaaGreatDoor.PA
namespace Go.Proofs.YtelldeeokpjchaaGreatDoor.Pure
open Go.RowKit Go.Proofs.YtelldeeokpjchaaGreatDoor.PA Go.Proofs.YtelldeeokpjchaaGreatDoorW.PrintWords Go.Proofs.YtelldeeokpjchaaGreatDoorW.PrintLast Go.Proofs.YtelldeeokpjchaaGreatDoorW.PrintMore
theorem FnExactSignText : laws_FnExactSignText.Pure := by
  rintro ⟨⟨⟨t, i, m, r, l, s⟩, ⟨p, f⟩, ⟨g, d, c⟩, ⟨b, n⟩⟩, w, ⟨⟨t', i', m', r', l', s'⟩, ⟨p', f'⟩, ⟨g', d', c'⟩, ⟨b', n'⟩⟩⟩ hV
  have hb : b.size ≤ 9223372036854775807 := hV.1.2.2.2.1
  have hb' : b'.size ≤ 9223372036854775807 := hV.2.2.2.2.2.1
  refine Ev.rounds (g := fun k => laws_FnExactSignText.f k t i m r l s p f g d c b n w t' i' m' r' l' s' p' f' g' d' c' b' n') (r := true) ?_
  unfold laws_FnExactSignText.f
  obtain ⟨v, e, hv⟩ := sz_sign t i m r l s p f g d c b n w t' i' m' r' l' s' p' f' g' d' c' b' n' 1048576 (by omega) (by omega) hb hb'
  simp only [e, Option.bind_some, to_sign]
  rcases hv with hv | ⟨h0, _, h1, h2⟩
  · exact Ev.congr (f := fun _ => some true) (fun k => by rw [if_pos hv]) (Ev.now _)
  · simp only [if_neg (show ¬ v < 0 by omega)]
    refine Ev.bind (spec_SignText_ev t i m r l s p f g d c b n w t' i' m' r' l' s' p' f' g' d' c' b' n' h1 h2) (Ev.bind (impl_SignText_ev t i m r l s p f g d c b n w t' i' m' r' l' s' p' f' g' d' c' b' n' h1 h2) ?_)
    exact Ev.congr (f := fun _ => some true) (fun k => by simp) (Ev.now _)
end Go.Proofs.YtelldeeokpjchaaGreatDoor.Pure
