/- The law FnExactTwoHands, plainly: the program's and the reference's functions return the same sign and the same bool. -/
import Derived.Test.YtelldeeokpjchaaGreatDoorWalkFnExactTwoHands
import Derived.Test.YtelldeeokpjchaaGreatDoorPAx14
import Derived.Test.YtelldeeokpjchaaGreatDoorPAx13
import Derived.Test.YtelldeeokpjchaaGreatDoorQSigns
import Derived.Test.YtelldeeokpjchaaGreatDoorQEqSign
namespace Go.Proofs.YtelldeeokpjchaaGreatDoor.PA
open Go.RowKit Go.Proofs.YtelldeeokpjchaaGreatDoorW.PrintWords Go.Proofs.YtelldeeokpjchaaGreatDoorW.PrintLast Go.Proofs.YtelldeeokpjchaaGreatDoorW.PrintMore
section
variable (t i m r l : Int) (s : Bool) (p f g d : Int) (c : Bool) (b : ByteArray) (n : Int) (w : Bool) (t' i' m' r' l' : Int) (s' : Bool) (p' f' g' d' : Int) (c' : Bool) (b' : ByteArray) (n' : Int)
/-- The sign of two hands. -/
def twoV : SgT := if sgOK t i m r l s p f g d c b n true t' i' m' r' l' s' p' f' g' d' c' b' n' = true then (t, i, m, r, l, s, p, f, g, d, c, b, n, true, t', i', m', r', l', s', p', f', g', d', c', b', n', true) else sgZ
theorem spec_TwoHands_ev (hb : b.size ≤ 1048576) (hb' : b'.size ≤ 1048576) : Ev (fun k => spec_TwoHands.f k t i m r l s p f g d c b n t' i' m' r' l' s' p' f' g' d' c' b' n') (twoV t i m r l s p f g d c b n t' i' m' r' l' s' p' f' g' d' c' b' n') := by
  unfold spec_TwoHands.f twoV
  refine Ev.bind (spec_good_ev t i m r l s p f g d c b n true t' i' m' r' l' s' p' f' g' d' c' b' n' hb hb') ?_
  cases h : sgOK t i m r l s p f g d c b n true t' i' m' r' l' s' p' f' g' d' c' b' n'
  · simp only [Bool.false_eq_true, if_false]; exact Ev.now _
  · simp only [if_true]; exact Ev.now _
theorem impl_TwoHands_ev (hb : b.size ≤ 1048576) (hb' : b'.size ≤ 1048576) : Ev (fun k => impl_TwoHands.f k t i m r l s p f g d c b n t' i' m' r' l' s' p' f' g' d' c' b' n') (twoV t i m r l s p f g d c b n t' i' m' r' l' s' p' f' g' d' c' b' n') := by
  unfold impl_TwoHands.f twoV
  refine Ev.bind (impl_sign_ev t i m r l s p f g d c b n true t' i' m' r' l' s' p' f' g' d' c' b' n' hb hb') ?_
  cases h : sgOK t i m r l s p f g d c b n true t' i' m' r' l' s' p' f' g' d' c' b' n'
  · simp only [Bool.false_eq_true, if_false]; exact Ev.now _
  · simp only [if_true]; exact Ev.now _
end
end Go.Proofs.YtelldeeokpjchaaGreatDoor.PA
namespace Go.Proofs.YtelldeeokpjchaaGreatDoor.Pure
open Go.RowKit Go.Proofs.YtelldeeokpjchaaGreatDoor.PA Go.Proofs.YtelldeeokpjchaaGreatDoorW.PrintWords Go.Proofs.YtelldeeokpjchaaGreatDoorW.PrintLast Go.Proofs.YtelldeeokpjchaaGreatDoorW.PrintMore
theorem FnExactTwoHands : laws_FnExactTwoHands.Pure := by
  rintro ⟨⟨t, i, m, r, l, s⟩, ⟨p, f⟩, ⟨g, d, c⟩, ⟨b, n⟩⟩ ⟨⟨t', i', m', r', l', s'⟩, ⟨p', f'⟩, ⟨g', d', c'⟩, ⟨b', n'⟩⟩ hV hV'
  have hb : b.size ≤ 9223372036854775807 := hV.2.2.2.1
  have hb' : b'.size ≤ 9223372036854775807 := hV'.2.2.2.1
  refine Ev.rounds (g := fun k => laws_FnExactTwoHands.f k t i m r l s p f g d c b n t' i' m' r' l' s' p' f' g' d' c' b' n') (r := true) ?_
  unfold laws_FnExactTwoHands.f
  rw [sz_hand t i m r l s p f g d c b n 1048576 (by omega) (by omega) hb]
  by_cases h : (b.size : Int) ≤ 1048576
  · rw [if_pos h]
    simp only [Option.bind_some, to_hand]
    have e1 : ¬ (1048576 - (b.size : Int) < 0) := by omega
    simp only [if_neg e1]
    rw [sz_hand t' i' m' r' l' s' p' f' g' d' c' b' n' (1048576 - (b.size : Int)) (by omega) (by omega) hb']
    by_cases h' : (b'.size : Int) ≤ 1048576 - (b.size : Int)
    · rw [if_pos h']
      have e2 : ¬ (1048576 - (b.size : Int) - (b'.size : Int) < 0) := by omega
      simp only [Option.bind_some, if_neg e2]
      refine Ev.bind (spec_TwoHands_ev t i m r l s p f g d c b n t' i' m' r' l' s' p' f' g' d' c' b' n' (by omega) (by omega)) (Ev.bind (impl_TwoHands_ev t i m r l s p f g d c b n t' i' m' r' l' s' p' f' g' d' c' b' n' (by omega) (by omega)) ?_)
      exact Ev.congr (f := fun _ => some true) (fun k => by simp only [eq_sign, Option.bind_some, if_true, beq_self_eq_true]) (Ev.now _)
    · rw [if_neg h']
      exact Ev.congr (f := fun _ => some true) (fun k => by simp) (Ev.now _)
  · rw [if_neg h]
    exact Ev.congr (f := fun _ => some true) (fun k => by simp) (Ev.now _)
end Go.Proofs.YtelldeeokpjchaaGreatDoor.Pure
