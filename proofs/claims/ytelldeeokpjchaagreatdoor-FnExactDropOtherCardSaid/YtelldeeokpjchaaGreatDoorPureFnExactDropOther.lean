/- The law FnExactDropOther, plainly: the program's and the reference's functions return the same sign and the same bool. -/
import Derived.Test.YtelldeeokpjchaaGreatDoorWalkFnExactDropOther
import Derived.Test.YtelldeeokpjchaaGreatDoorPAx15
import Derived.Test.YtelldeeokpjchaaGreatDoorPAx10
import Derived.Test.YtelldeeokpjchaaGreatDoorQSigns
import Derived.Test.YtelldeeokpjchaaGreatDoorQEqSign
namespace Go.Proofs.YtelldeeokpjchaaGreatDoor.PA
open Go.RowKit Go.Proofs.YtelldeeokpjchaaGreatDoorW.PrintWords Go.Proofs.YtelldeeokpjchaaGreatDoorW.PrintLast Go.Proofs.YtelldeeokpjchaaGreatDoorW.PrintMore
section
variable (t i m r l : Int) (s : Bool) (p f g d : Int) (c : Bool) (b : ByteArray) (n : Int) (w : Bool) (t' i' m' r' l' : Int) (s' : Bool) (p' f' g' d' : Int) (c' : Bool) (b' : ByteArray) (n' : Int)
/-- The kind. -/
def sgKind : Int := if w = true then (if b'.toList = ([] : List UInt8) then (if shEq t i m r l s t' i' m' r' l' s' = true then 2 else 3) else 1) else 0
theorem spec_kind : spec_siKind.f t i m r l s p f g d c b n w t' i' m' r' l' s' p' f' g' d' c' b' n' = some (sgKind t i m r l s w t' i' m' r' l' s' b') := by
  unfold spec_siKind.f sgKind
  show (if w = true then (if b'.toList = ([] : List UInt8) then (if shEq t i m r l s t' i' m' r' l' s' = true then _ else _) else _) else _) = _
  split <;> (try split) <;> (try split) <;> rfl
theorem impl_kind : impl_Sign_kind.f t i m r l s p f g d c b n w t' i' m' r' l' s' p' f' g' d' c' b' n' = some (sgKind t i m r l s w t' i' m' r' l' s' b') := by
  unfold impl_Sign_kind.f sgKind
  simp only [impl_moves, Option.bind_some]
  show (if w = true then (if _ then _ else (if shEq t' i' m' r' l' s' t i m r l s = true then _ else _)) else _) = _
  rw [shEq_comm t' i' m' r' l' s']
  cases w <;> by_cases h : b'.toList = ([] : List UInt8) <;> cases shEq t i m r l s t' i' m' r' l' s' <;> simp [h]
/-- The sign without the other hand. -/
def dropV : SgT := if sgOK t i m r l s p f g d c b n w t' i' m' r' l' s' p' f' g' d' c' b' n' = true then (if sgKind t i m r l s w t' i' m' r' l' s' b' = 0 then sgZ else (if sgKind t i m r l s w t' i' m' r' l' s' b' = 3 then sgZ else (t, i, m, r, l, s, p, f, g, d, c, b, n, false, 0, 0, 0, 0, 0, false, 0, 0, 0, 0, false, (⟨#[]⟩ : ByteArray), 0, true))) else sgZ
theorem spec_DropOther_ev (hb : b.size ≤ 1048576) (hb' : b'.size ≤ 1048576) : Ev (fun k => spec_DropOther.f k t i m r l s p f g d c b n w t' i' m' r' l' s' p' f' g' d' c' b' n') (dropV t i m r l s p f g d c b n w t' i' m' r' l' s' p' f' g' d' c' b' n') := by
  unfold spec_DropOther.f dropV
  refine Ev.bind (spec_good_ev t i m r l s p f g d c b n w t' i' m' r' l' s' p' f' g' d' c' b' n' hb hb') ?_
  cases h : sgOK t i m r l s p f g d c b n w t' i' m' r' l' s' p' f' g' d' c' b' n'
  · simp only [Bool.false_eq_true, if_false]; exact Ev.now _
  · simp only [if_true, spec_kind, Option.bind_some]
    by_cases h0 : sgKind t i m r l s w t' i' m' r' l' s' b' = 0
    · simp only [if_pos h0]; exact Ev.now _
    · simp only [if_neg h0]
      by_cases h3 : sgKind t i m r l s w t' i' m' r' l' s' b' = 3
      · simp only [if_pos h3]; exact Ev.now _
      · simp only [if_neg h3]; exact Ev.now _
theorem impl_DropOther_ev (hb : b.size ≤ 1048576) (hb' : b'.size ≤ 1048576) : Ev (fun k => impl_DropOther.f k t i m r l s p f g d c b n w t' i' m' r' l' s' p' f' g' d' c' b' n') (dropV t i m r l s p f g d c b n w t' i' m' r' l' s' p' f' g' d' c' b' n') := by
  unfold impl_DropOther.f dropV
  refine Ev.bind (impl_sign_ev t i m r l s p f g d c b n w t' i' m' r' l' s' p' f' g' d' c' b' n' hb hb') ?_
  cases h : sgOK t i m r l s p f g d c b n w t' i' m' r' l' s' p' f' g' d' c' b' n'
  · simp only [Bool.false_eq_true, if_false]; exact Ev.now _
  · simp only [if_true, impl_kind, Option.bind_some]
    by_cases h0 : sgKind t i m r l s w t' i' m' r' l' s' b' = 0
    · simp only [if_pos h0]; exact Ev.now _
    · simp only [if_neg h0]
      by_cases h3 : sgKind t i m r l s w t' i' m' r' l' s' b' = 3
      · simp only [if_pos h3]; exact Ev.now _
      · simp only [if_neg h3]; exact Ev.now _
end
end Go.Proofs.YtelldeeokpjchaaGreatDoor.PA
namespace Go.Proofs.YtelldeeokpjchaaGreatDoor.Pure
open Go.RowKit Go.Proofs.YtelldeeokpjchaaGreatDoor.PA Go.Proofs.YtelldeeokpjchaaGreatDoorW.PrintWords Go.Proofs.YtelldeeokpjchaaGreatDoorW.PrintLast Go.Proofs.YtelldeeokpjchaaGreatDoorW.PrintMore
theorem FnExactDropOther : laws_FnExactDropOther.Pure := by
  rintro ⟨⟨⟨t, i, m, r, l, s⟩, ⟨p, f⟩, ⟨g, d, c⟩, ⟨b, n⟩⟩, w, ⟨⟨t', i', m', r', l', s'⟩, ⟨p', f'⟩, ⟨g', d', c'⟩, ⟨b', n'⟩⟩⟩ hV
  have hb : b.size ≤ 9223372036854775807 := hV.1.2.2.2.1
  have hb' : b'.size ≤ 9223372036854775807 := hV.2.2.2.2.2.1
  refine Ev.rounds (g := fun k => laws_FnExactDropOther.f k t i m r l s p f g d c b n w t' i' m' r' l' s' p' f' g' d' c' b' n') (r := true) ?_
  unfold laws_FnExactDropOther.f
  obtain ⟨v, e, hv⟩ := sz_sign t i m r l s p f g d c b n w t' i' m' r' l' s' p' f' g' d' c' b' n' 1048576 (by omega) (by omega) hb hb'
  simp only [e, Option.bind_some, to_sign]
  rcases hv with hv | ⟨h0, _, h1, h2⟩
  · exact Ev.congr (f := fun _ => some true) (fun k => by rw [if_pos hv]) (Ev.now _)
  · simp only [if_neg (show ¬ v < 0 by omega)]
    refine Ev.bind (spec_DropOther_ev t i m r l s p f g d c b n w t' i' m' r' l' s' p' f' g' d' c' b' n' h1 h2) (Ev.bind (impl_DropOther_ev t i m r l s p f g d c b n w t' i' m' r' l' s' p' f' g' d' c' b' n' h1 h2) ?_)
    exact Ev.congr (f := fun _ => some true) (fun k => by simp only [eq_sign, Option.bind_some, if_true, beq_self_eq_true]) (Ev.now _)
end Go.Proofs.YtelldeeokpjchaaGreatDoor.Pure
