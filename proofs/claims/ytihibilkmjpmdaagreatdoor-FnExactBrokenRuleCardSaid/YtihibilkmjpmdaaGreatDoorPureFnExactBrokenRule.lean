/- The law FnExactBrokenRule, plainly: for every two hands the program's and the reference's functions return the same number and the same bool. -/
import Derived.Test.YtihibilkmjpmdaaGreatDoorWalkFnExactBrokenRule
import Derived.Test.YtihibilkmjpmdaaGreatDoorPAx18
import Derived.Test.YtihibilkmjpmdaaGreatDoorPAx17
import Derived.Test.YtihibilkmjpmdaaGreatDoorPAx16
import Derived.Test.YtihibilkmjpmdaaGreatDoorQBroken
namespace Go.Proofs.YtihibilkmjpmdaaGreatDoor.PA
open Go.RowKit Go.Proofs.YtihibilkmjpmdaaGreatDoorW.PrintWords Go.Proofs.YtihibilkmjpmdaaGreatDoorW.PrintLast Go.Proofs.YtihibilkmjpmdaaGreatDoorW.PrintMore
section
variable (t i m r l : Int) (s : Bool) (p f g d : Int) (c : Bool) (b : ByteArray) (n : Int) (t' i' m' r' l' : Int) (s' : Bool) (p' f' g' d' : Int) (c' : Bool) (b' : ByteArray) (n' : Int)
/-- The answer. -/
def brR : Int × Bool := if hdOK t i m r l s p f g d c b n && hdOK t' i' m' r' l' s' p' f' g' d' c' b' n' then (brV t i m r l s p f b n t' i' m' r' l' s' p' f' b' n', true) else (0, false)
theorem spec_br_ev (hb : b.size ≤ 1048576) (hb' : b'.size ≤ 1048576) : Ev (fun k => spec_BrokenRule.f k t i m r l s p f g d c b n t' i' m' r' l' s' p' f' g' d' c' b' n') (brR t i m r l s p f g d c b n t' i' m' r' l' s' p' f' g' d' c' b' n') := by
  unfold spec_BrokenRule.f brR
  refine Ev.bind (spec_hand_ev t i m r l s p f g d c b n hb) ?_
  cases h : hdOK t i m r l s p f g d c b n
  · simp only [Bool.false_eq_true, if_false, Bool.false_and]; exact Ev.now _
  · simp only [if_true, Bool.true_and]
    refine Ev.bind (spec_hand_ev t' i' m' r' l' s' p' f' g' d' c' b' n' hb') ?_
    cases h' : hdOK t' i' m' r' l' s' p' f' g' d' c' b' n'
    · simp only [Bool.false_eq_true, if_false]; exact Ev.now _
    · simp only [if_true]
      have h1 := hdOK_mv h
      have h2 := hdOK_mv h'
      exact Ev.bind (spec_broken_ev t i m r l s p f g d c b n t' i' m' r' l' s' p' f' g' d' c' b' n' h1.1 h1.2 h2.1 h2.2) (Ev.now _)
theorem impl_br_tail (hb : b.size ≤ 6) (hn : 0 ≤ n ∧ n ≤ 3) (hb' : b'.size ≤ 6) (hn' : 0 ≤ n' ∧ n' ≤ 3) : Ev (fun k => impl_BrokenRule.j0 k false t i m r l s p f g d c b n t' i' m' r' l' s' p' f' g' d' c' b' n') (brV t i m r l s p f b n t' i' m' r' l' s' p' f' b' n', true) := by
  refine Ev.step (fun k => by simp only [impl_BrokenRule.j0, Bool.false_eq_true, if_false]; exact rfl) ?_
  refine Ev.bind (impl_keep_ev t i m r l s p f g d c b n t' i' m' r' l' s' p' f' g' d' c' b' n' hb hn hb' hn') ?_
  refine Ev.congr (f := fun _ => some (brV t i m r l s p f b n t' i' m' r' l' s' p' f' b' n', true)) (fun k => ?_) (Ev.now _)
  simp only [impl_moves, Option.bind_some, impl_or_mirror, shNe]
  have ho : (!(p' == p) || (!(f' == f))) = !(p == p' && f == f') := by rw [Bool.not_and, BEq.comm (a := p), BEq.comm (a := f)]
  have ho2 : (!(p' == orSw p) || (!(f' == orSw f))) = !(p == orSw p' && f == orSw f') := by rw [Bool.not_and, orSw_eq p' p, orSw_eq f' f]
  rw [ho, ho2]
  unfold brV orFit
  generalize mvFit b n b' n' = M
  by_cases h0 : b'.toList = ([] : List UInt8) <;> by_cases h1 : b.toList = ([] : List UInt8) <;> cases shEq t i m r l s t' i' m' r' l' s' <;> cases shIn plainL t' i' m' r' l' s' <;> cases (p == p' && f == f') <;> cases (p == orSw p' && f == orSw f') <;> cases M <;> simp [h0, h1]
theorem impl_br_ev (hb : b.size ≤ 1048576) (hb' : b'.size ≤ 1048576) : Ev (fun k => impl_BrokenRule.f k t i m r l s p f g d c b n t' i' m' r' l' s' p' f' g' d' c' b' n') (brR t i m r l s p f g d c b n t' i' m' r' l' s' p' f' g' d' c' b' n') := by
  unfold impl_BrokenRule.f brR
  refine Ev.bind (impl_hand_ev t i m r l s p f g d c b n hb) ?_
  have no : Ev (fun k => impl_BrokenRule.j0 k true t i m r l s p f g d c b n t' i' m' r' l' s' p' f' g' d' c' b' n') (0, false) := Ev.step (f := fun _ => some (0, false)) (fun k => by simp only [impl_BrokenRule.j0, if_true]) (Ev.now _)
  cases h : hdOK t i m r l s p f g d c b n
  · simp only [Bool.false_eq_true, if_false, Bool.false_and]; exact no
  · simp only [if_true, Bool.true_and]
    refine Ev.bind (impl_hand_ev t' i' m' r' l' s' p' f' g' d' c' b' n' hb') ?_
    cases h' : hdOK t' i' m' r' l' s' p' f' g' d' c' b' n'
    · simp only [Bool.not_false, Bool.false_eq_true, if_false]; exact no
    · simp only [Bool.not_true, if_true]
      have h1 := hdOK_mv h
      have h2 := hdOK_mv h'
      exact impl_br_tail t i m r l s p f g d c b n t' i' m' r' l' s' p' f' g' d' c' b' n' h1.1 h1.2 h2.1 h2.2
end
end Go.Proofs.YtihibilkmjpmdaaGreatDoor.PA
namespace Go.Proofs.YtihibilkmjpmdaaGreatDoor.Pure
open Go.RowKit Go.Proofs.YtihibilkmjpmdaaGreatDoor.PA Go.Proofs.YtihibilkmjpmdaaGreatDoorW.PrintWords Go.Proofs.YtihibilkmjpmdaaGreatDoorW.PrintLast Go.Proofs.YtihibilkmjpmdaaGreatDoorW.PrintMore
theorem FnExactBrokenRule : laws_FnExactBrokenRule.Pure := by
  rintro ⟨⟨t, i, m, r, l, s⟩, ⟨p, f⟩, ⟨g, d, c⟩, ⟨b, n⟩⟩ ⟨⟨t', i', m', r', l', s'⟩, ⟨p', f'⟩, ⟨g', d', c'⟩, ⟨b', n'⟩⟩ hV hV'
  have hb : b.size ≤ 9223372036854775807 := hV.2.2.2.1
  have hb' : b'.size ≤ 9223372036854775807 := hV'.2.2.2.1
  refine Ev.rounds (g := fun k => laws_FnExactBrokenRule.f k t i m r l s p f g d c b n t' i' m' r' l' s' p' f' g' d' c' b' n') (r := true) ?_
  unfold laws_FnExactBrokenRule.f
  rw [sz_hand t i m r l s p f g d c b n 1048576 (by omega) (by omega) hb]
  by_cases h : (b.size : Int) ≤ 1048576
  · rw [if_pos h]
    simp only [Option.bind_some, to_hand]
    have e1 : ¬ (1048576 - (b.size : Int) < 0) := by omega
    simp only [if_neg e1]
    rw [sz_hand t' i' m' r' l' s' p' f' g' d' c' b' n' (1048576 - (b.size : Int)) (by omega) (by omega) hb']
    by_cases h' : (b'.size : Int) ≤ 1048576 - (b.size : Int)
    · rw [if_pos h']
      have e2 : ¬ (1048576 - (b.size : Int) - (b'.size : Int) < 0) := by omega
      simp only [Option.bind_some, if_neg e2]
      refine Ev.bind (spec_br_ev t i m r l s p f g d c b n t' i' m' r' l' s' p' f' g' d' c' b' n' (by omega) (by omega)) (Ev.bind (impl_br_ev t i m r l s p f g d c b n t' i' m' r' l' s' p' f' g' d' c' b' n' (by omega) (by omega)) ?_)
      exact Ev.congr (f := fun _ => some true) (fun k => by simp) (Ev.now _)
    · rw [if_neg h']
      exact Ev.congr (f := fun _ => some true) (fun k => by simp) (Ev.now _)
  · rw [if_neg h]
    exact Ev.congr (f := fun _ => some true) (fun k => by simp) (Ev.now _)
end Go.Proofs.YtihibilkmjpmdaaGreatDoor.Pure
