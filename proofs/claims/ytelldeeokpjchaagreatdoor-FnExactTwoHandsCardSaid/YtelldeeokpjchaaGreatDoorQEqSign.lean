/- Equal signs are equal. -/
import Derived.Test.YtelldeeokpjchaaGreatDoorPAx9
namespace Go.Proofs.YtelldeeokpjchaaGreatDoor.PA
open Go.RowKit Go.Proofs.YtelldeeokpjchaaGreatDoorW.PrintWords Go.Proofs.YtelldeeokpjchaaGreatDoorW.PrintLast Go.Proofs.YtelldeeokpjchaaGreatDoorW.PrintMore
theorem eq_hand (t i m r l : Int) (s : Bool) (p f g d : Int) (c : Bool) (b : ByteArray) (n : Int) : laws_eqHand.f t i m r l s p f g d c b n t i m r l s p f g d c b n = some true := by
  have e1 : laws_eqShape.f t i m r l s t i m r l s = some true := by unfold laws_eqShape.f; simp
  have e2 : laws_eqOrient.f p f p f = some true := by unfold laws_eqOrient.f; simp
  have e3 : laws_eqPlace.f g d c g d c = some true := by unfold laws_eqPlace.f; simp
  have e4 : laws_eqMove.f b n b n = some true := by unfold laws_eqMove.f; simp
  unfold laws_eqHand.f
  simp only [e1, e2, e3, e4, Option.bind_some, if_true]
theorem eq_sign (t i m r l : Int) (s : Bool) (p f g d : Int) (c : Bool) (b : ByteArray) (n : Int) (w : Bool) (t' i' m' r' l' : Int) (s' : Bool) (p' f' g' d' : Int) (c' : Bool) (b' : ByteArray) (n' : Int) : laws_eqSign.f t i m r l s p f g d c b n w t' i' m' r' l' s' p' f' g' d' c' b' n' t i m r l s p f g d c b n w t' i' m' r' l' s' p' f' g' d' c' b' n' = some true := by
  unfold laws_eqSign.f
  simp only [eq_hand, Option.bind_some, if_true, beq_self_eq_true]
/-- No sign. -/
abbrev SgT := Int × Int × Int × Int × Int × Bool × Int × Int × Int × Int × Bool × ByteArray × Int × Bool × Int × Int × Int × Int × Int × Bool × Int × Int × Int × Int × Bool × ByteArray × Int × Bool
def sgZ : SgT := (0, 0, 0, 0, 0, false, 0, 0, 0, 0, false, (⟨#[]⟩ : ByteArray), 0, false, 0, 0, 0, 0, 0, false, 0, 0, 0, 0, false, (⟨#[]⟩ : ByteArray), 0, false)
end Go.Proofs.YtelldeeokpjchaaGreatDoor.PA
