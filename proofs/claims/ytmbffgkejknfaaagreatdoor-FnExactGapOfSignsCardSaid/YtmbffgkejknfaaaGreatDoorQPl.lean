/- The plain law of places' distances. -/
import Derived.Test.YtmbffgkejknfaaaGreatDoorPAx9
import Derived.Test.YtmbffgkejknfaaaGreatDoorPAx7
import Derived.Test.YtmbffgkejknfaaaGreatDoorQSigns
namespace Go.Proofs.YtmbffgkejknfaaaGreatDoor.PA
open Go.RowKit Go.Proofs.YtmbffgkejknfaaaGreatDoorW.PrintWords Go.Proofs.YtmbffgkejknfaaaGreatDoorW.PrintLast Go.Proofs.YtmbffgkejknfaaaGreatDoorW.PrintMore
set_option linter.unusedVariables false
set_option linter.unusedSimpArgs false
def dV (x y : Int) : Int := if x - y > y - x then x - y else y - x
theorem dV_in {x y : Int} (hx : -10 ≤ x ∧ x ≤ 10) (hy : -10 ≤ y ∧ y ≤ 10) : 0 ≤ dV x y ∧ dV x y ≤ 20 := by
  unfold dV
  split <;> omega
theorem abs_val {x y : Int} (hx : -10 ≤ x ∧ x ≤ 10) (hy : -10 ≤ y ∧ y ≤ 10) : spec_l1Abs.f (wrap64 (x - y)) = some (dV x y) := by
  unfold spec_l1Abs.f spec_l1Most.f dV
  rw [w64_i (x := x - y) (by omega) (by omega), w64_i (by omega) (by omega), show 0 - (x - y) = y - x by omega]
  split <;> rfl
theorem dist_val {x y : Int} (hx : -10 ≤ x ∧ x ≤ 10) (hy : -10 ≤ y ∧ y ≤ 10) : impl_distance.f x y = some (dV x y) := by
  unfold impl_distance.f dV mx
  rw [w64_i (x := x - y) (by omega) (by omega), w64_i (by omega) (by omega)]
  repeat' split
  all_goals first | rfl | (congr 1; omega)
def plV (g d : Int) (c : Bool) (g' d' : Int) (c' : Bool) : Int :=
  if (c != c') = true then (if ((g == 0) != (g' == 0)) = true then wrap64 (wrap64 (dV d d' + 1) + 4) else wrap64 (wrap64 (dV d d' + 1) + dV g g')) else (if ((g == 0) != (g' == 0)) = true then wrap64 (dV d d' + 4) else wrap64 (dV d d' + dV g g'))
theorem plOK_in {g d : Int} {c : Bool} (h : plOK g d c = true) : (0 ≤ g ∧ g ≤ 9) ∧ (-1 ≤ d ∧ d ≤ 1) := by
  unfold plOK at h
  simp only [Bool.and_eq_true, decide_eq_true_eq] at h
  exact ⟨h.1, h.2.1⟩
theorem spec_pl {g d : Int} {c : Bool} {g' d' : Int} {c' : Bool} (h : plOK g d c = true) (h' : plOK g' d' c' = true) : spec_plFar.f g d c g' d' c' = some (plV g d c g' d' c') := by
  obtain ⟨a1, a2⟩ := plOK_in h
  obtain ⟨b1, b2⟩ := plOK_in h'
  unfold spec_plFar.f plV
  rw [abs_val (x := d) (y := d') (by omega) (by omega), abs_val (x := g) (y := g') (by omega) (by omega)]
  simp only [Option.bind_some, bne]
  obtain e1 | e1 := Bool.eq_false_or_eq_true (c == c') <;> obtain e2 | e2 := Bool.eq_false_or_eq_true ((g == 0) == (g' == 0)) <;>
    simp only [e1, e2, if_true, Bool.not_true, Bool.not_false, Bool.false_eq_true, if_false]
theorem impl_pl {g d : Int} {c : Bool} {g' d' : Int} {c' : Bool} (h : plOK g d c = true) (h' : plOK g' d' c' = true) : impl_Place_distance.f g d c g' d' c' = some (plV g d c g' d' c') := by
  obtain ⟨a1, a2⟩ := plOK_in h
  obtain ⟨b1, b2⟩ := plOK_in h'
  unfold impl_Place_distance.f plV
  rw [dist_val (x := d) (y := d') (by omega) (by omega), dist_val (x := g) (y := g') (by omega) (by omega)]
  simp only [Option.bind_some, bne]
  obtain e1 | e1 := Bool.eq_false_or_eq_true (c == c') <;> obtain e2 | e2 := Bool.eq_false_or_eq_true ((g == 0) == (g' == 0)) <;>
    simp only [e1, e2, if_true, Bool.not_true, Bool.not_false, Bool.false_eq_true, if_false]
theorem hdOK_parts {t i m r l : Int} {s : Bool} {p f g d : Int} {c : Bool} {b : ByteArray} {n : Int} (h : hdOK t i m r l s p f g d c b n = true) : shOK t i m r l s = true ∧ plOK g d c = true ∧ mvOK b n = true := by
  unfold hdOK at h
  simp only [Bool.and_eq_true] at h
  exact ⟨h.1, h.2.2.1, h.2.2.2⟩
end Go.Proofs.YtmbffgkejknfaaaGreatDoor.PA
