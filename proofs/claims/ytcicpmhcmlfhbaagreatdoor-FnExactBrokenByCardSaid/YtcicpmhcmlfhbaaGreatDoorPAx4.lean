-- Written by a program of this session (wip/tools/myprint.py). Not trusted: Lean checks it.
import Derived.Test.YtcicpmhcmlfhbaaGreatDoorCtx
import Derived.Test.YtcicpmhcmlfhbaaGreatDoorPAx1
import Derived.Test.YtcicpmhcmlfhbaaGreatDoorPAx3
namespace Go.Proofs.YtcicpmhcmlfhbaaGreatDoor.PA
open Go.RowKit Go.Proofs.YtcicpmhcmlfhbaaGreatDoorW.PrintWords Go.Proofs.YtcicpmhcmlfhbaaGreatDoorW.PrintLast Go.Proofs.YtcicpmhcmlfhbaaGreatDoorW.PrintMore
attribute [local go_sem] max2_int min2_int max_two min_two max_three min_three max_four min_four   -- for this text's walks alone
set_option linter.unusedVariables false
set_option linter.unusedSimpArgs false

attribute [local go_sem high] eqA23 eqA31
/-! ### laws_eqIntS: function 30 -/

def laws_eqIntS.l0 : Nat → List Int → List Int → Int → Option (Bool)
  | 0, _, _, _ => none
  | k + 1, x0, x1, x5 => if x5 < (x0.length : Int) then (if 0 ≤ x5 then (if x5 < (x0.length : Int) then (if 0 ≤ x5 then (if x5 < (x1.length : Int) then (if (rd x0 x5) = (rd x1 x5) then (laws_eqIntS.l0 k x0 x1 (wrap64 (x5 + 1))) else (some false)) else (none)) else (none)) else (none)) else (none)) else (some true)

def laws_eqIntS.f (k : Nat) (l0 : List Int) (l1 : List Int) : Option (Bool) := if (l0.length : Int) = (l1.length : Int) then (laws_eqIntS.l0 k l0 l1 0) else (some false)

theorem laws_eqIntS.mono_l : ∀ k, (∀ y0 y1 y2, LeO (laws_eqIntS.l0 k y0 y1 y2) (laws_eqIntS.l0 (k + 1) y0 y1 y2))
  | 0 => fun _ _ _ r h => by simp [laws_eqIntS.l0] at h
  | k + 1 => by
    have ih0 := laws_eqIntS.mono_l k
    · intro y0 y1 y2
      unfold laws_eqIntS.l0
      repeat' first
      | (with_reducible exact ih0 _ _ _)
      | (with_reducible exact LeO.refl _)
      | (with_reducible exact LeO.none _)
      | (with_reducible refine LeO.ite ?_ ?_)
      | (with_reducible refine LeO.bind ?_ (fun _ => ?_))
      | exact ih0 _ _ _
      | exact LeO.none _
      | refine LeO.ite ?_ ?_
      | refine LeO.bind ?_ (fun _ => ?_)

theorem laws_eqIntS.mono : ∀ a0 a1 k, LeO (laws_eqIntS.f k a0 a1) (laws_eqIntS.f (k + 1) a0 a1) := by
  intro a0 a1 k
  have ih0 := laws_eqIntS.mono_l k
  unfold laws_eqIntS.f
  repeat' first
      | (with_reducible exact ih0 _ _ _)
      | (with_reducible exact LeO.refl _)
      | (with_reducible exact LeO.none _)
      | (with_reducible refine LeO.ite ?_ ?_)
      | (with_reducible refine LeO.bind ?_ (fun _ => ?_))
      | exact ih0 _ _ _
      | exact LeO.none _
      | refine LeO.ite ?_ ?_
      | refine LeO.bind ?_ (fun _ => ?_)

def laws_eqIntS.e (k : Nat) : Refl.Ent G := ⟨30, [(.c (.row 3 false)), (.c (.row 3 false))], .one (.c .bool), fun x => laws_eqIntS.f k x.1 x.2⟩
def laws_eqIntS.pl0 : Refl.Pn G (Refl.PT G (laws_eqIntS.e 0).ol) := ⟨true, 0, ⟨[(0, .v (.c (.row 3 false))), (1, .v (.c (.row 3 false))), (5, .v (.c li)), (4, .k (Value.bool false))], []⟩, fun k x => laws_eqIntS.l0 k x.1 x.2.1 x.2.2⟩
theorem laws_eqIntS.ok (k : Nat) : Refl.EntOK Tryz.prog (laws_eqIntS.e k) := Refl.ent_ok 1000000 k GC (fun k => []) (fun k => trivial) Tryz.func30 (by kernel_rfl) [laws_eqIntS.pl0] (ps := [laws_eqIntS.pl0]) (by kernel_rfl) ⟨⟨fun x => by kernel_rfl, fun k x => by kernel_rfl⟩, trivial⟩ (fun x => by kernel_rfl)

/-! ### laws_markIntS: function 34 -/

def laws_markIntS.l0 : Nat → List Int → Int → Int → Option (Int × List Int)
  | 0, _, _, _ => none
  | k + 1, x0, x1, x5 => if x5 < (x0.length : Int) then (if 0 ≤ x5 then (if x5 < (x0.length : Int) then (laws_markIntS.l0 k (x0.set (x5 : Int).toNat x1) (wrap64 (x1 + 1)) (wrap64 (x5 + 1))) else (none)) else (none)) else (some (x1, x0))

def laws_markIntS.f (k : Nat) (l0 : List Int) (a1 : Int) : Option (Int × List Int) := laws_markIntS.l0 k l0 a1 0

theorem laws_markIntS.mono_l : ∀ k, (∀ y0 y1 y2, LeO (laws_markIntS.l0 k y0 y1 y2) (laws_markIntS.l0 (k + 1) y0 y1 y2))
  | 0 => fun _ _ _ r h => by simp [laws_markIntS.l0] at h
  | k + 1 => by
    have ih0 := laws_markIntS.mono_l k
    · intro y0 y1 y2
      unfold laws_markIntS.l0
      repeat' first
      | (with_reducible exact ih0 _ _ _)
      | (with_reducible exact LeO.refl _)
      | (with_reducible exact LeO.none _)
      | (with_reducible refine LeO.ite ?_ ?_)
      | (with_reducible refine LeO.bind ?_ (fun _ => ?_))
      | exact ih0 _ _ _
      | exact LeO.none _
      | refine LeO.ite ?_ ?_
      | refine LeO.bind ?_ (fun _ => ?_)

theorem laws_markIntS.mono : ∀ a0 a1 k, LeO (laws_markIntS.f k a0 a1) (laws_markIntS.f (k + 1) a0 a1) := by
  intro a0 a1 k
  have ih0 := laws_markIntS.mono_l k
  unfold laws_markIntS.f
  repeat' first
      | (with_reducible exact ih0 _ _ _)
      | (with_reducible exact LeO.refl _)
      | (with_reducible exact LeO.none _)
      | (with_reducible refine LeO.ite ?_ ?_)
      | (with_reducible refine LeO.bind ?_ (fun _ => ?_))
      | exact ih0 _ _ _
      | exact LeO.none _
      | refine LeO.ite ?_ ?_
      | refine LeO.bind ?_ (fun _ => ?_)

def laws_markIntS.e (k : Nat) : Refl.Ent G := ⟨34, [.mrow 3, (.c li)], .one (.c li), fun x => laws_markIntS.f k x.1 x.2⟩
def laws_markIntS.pl0 : Refl.Pn G (Refl.PT G (laws_markIntS.e 0).ol) := ⟨true, 0, ⟨[(0, .v (.c (.own 3))), (1, .v (.c li)), (5, .v (.c li)), (4, .k (Value.int IntKind.i64 0))], []⟩, fun k x => laws_markIntS.l0 k x.1 x.2.1 x.2.2⟩
theorem laws_markIntS.ok (k : Nat) : Refl.EntOK Tryz.prog (laws_markIntS.e k) := Refl.ent_ok 1000000 k GC (fun k => []) (fun k => trivial) Tryz.func34 (by kernel_rfl) [laws_markIntS.pl0] (ps := [laws_markIntS.pl0]) (by kernel_rfl) ⟨⟨fun x => by kernel_rfl, fun k x => by kernel_rfl⟩, trivial⟩ (fun x => by kernel_rfl)

/-! ### laws_heldIntS: function 36 -/

def laws_heldIntS.l0 : Nat → List Int → Int → Int → Option (Int)
  | 0, _, _, _ => none
  | k + 1, x0, x1, x5 => if x5 < (x0.length : Int) then (if 0 ≤ x5 then (if x5 < (x0.length : Int) then (if (rd x0 x5) = x1 then (laws_heldIntS.l0 k x0 (wrap64 (x1 + 1)) (wrap64 (x5 + 1))) else (some (-1))) else (none)) else (none)) else (some x1)

def laws_heldIntS.f (k : Nat) (l0 : List Int) (a1 : Int) : Option (Int) := laws_heldIntS.l0 k l0 a1 0

theorem laws_heldIntS.mono_l : ∀ k, (∀ y0 y1 y2, LeO (laws_heldIntS.l0 k y0 y1 y2) (laws_heldIntS.l0 (k + 1) y0 y1 y2))
  | 0 => fun _ _ _ r h => by simp [laws_heldIntS.l0] at h
  | k + 1 => by
    have ih0 := laws_heldIntS.mono_l k
    · intro y0 y1 y2
      unfold laws_heldIntS.l0
      repeat' first
      | (with_reducible exact ih0 _ _ _)
      | (with_reducible exact LeO.refl _)
      | (with_reducible exact LeO.none _)
      | (with_reducible refine LeO.ite ?_ ?_)
      | (with_reducible refine LeO.bind ?_ (fun _ => ?_))
      | exact ih0 _ _ _
      | exact LeO.none _
      | refine LeO.ite ?_ ?_
      | refine LeO.bind ?_ (fun _ => ?_)

theorem laws_heldIntS.mono : ∀ a0 a1 k, LeO (laws_heldIntS.f k a0 a1) (laws_heldIntS.f (k + 1) a0 a1) := by
  intro a0 a1 k
  have ih0 := laws_heldIntS.mono_l k
  unfold laws_heldIntS.f
  repeat' first
      | (with_reducible exact ih0 _ _ _)
      | (with_reducible exact LeO.refl _)
      | (with_reducible exact LeO.none _)
      | (with_reducible refine LeO.ite ?_ ?_)
      | (with_reducible refine LeO.bind ?_ (fun _ => ?_))
      | exact ih0 _ _ _
      | exact LeO.none _
      | refine LeO.ite ?_ ?_
      | refine LeO.bind ?_ (fun _ => ?_)

def laws_heldIntS.e (k : Nat) : Refl.Ent G := ⟨36, [(.c (.row 3 false)), (.c li)], .one (.c li), fun x => laws_heldIntS.f k x.1 x.2⟩
def laws_heldIntS.pl0 : Refl.Pn G (Refl.PT G (laws_heldIntS.e 0).ol) := ⟨true, 0, ⟨[(0, .v (.c (.row 3 false))), (1, .v (.c li)), (5, .v (.c li)), (4, .k (Value.int IntKind.i64 0))], []⟩, fun k x => laws_heldIntS.l0 k x.1 x.2.1 x.2.2⟩
theorem laws_heldIntS.ok (k : Nat) : Refl.EntOK Tryz.prog (laws_heldIntS.e k) := Refl.ent_ok 1000000 k GC (fun k => []) (fun k => trivial) Tryz.func36 (by kernel_rfl) [laws_heldIntS.pl0] (ps := [laws_heldIntS.pl0]) (by kernel_rfl) ⟨⟨fun x => by kernel_rfl, fun k x => by kernel_rfl⟩, trivial⟩ (fun x => by kernel_rfl)

/-! ### laws_szMove: function 118 -/

def laws_szMove.f (a0_0 : ByteArray) (a0_1 : Int) (a1 : Int) : Option (Int) := if (wrap64 (a1 - (a0_0.size : Int))) < 0 then (some (-1)) else (some (wrap64 (a1 - (a0_0.size : Int))))

def laws_szMove.e (k : Nat) : Refl.Ent G := ⟨118, [(.agg [.str, li]), (.c li)], .one (.c li), fun x => laws_szMove.f x.1 x.2.1 x.2.2⟩
theorem laws_szMove.ok (k : Nat) : Refl.EntOK Tryz.prog (laws_szMove.e k) := Refl.ent_ok 1000000 k GC (fun k => []) (fun k => trivial) Tryz.func118 (by kernel_rfl) [] (ps := []) (by kernel_rfl) trivial (fun x => by kernel_rfl)

/-! ### laws_szHand: function 68 -/

def laws_szHand.f (a0_0 : Int) (a0_1 : Int) (a0_2 : Int) (a0_3 : Int) (a0_4 : Int) (a0_5 : Bool) (a0_6 : Int) (a0_7 : Int) (a0_8 : Int) (a0_9 : Int) (a0_10 : Bool) (a0_11 : ByteArray) (a0_12 : Int) (a1 : Int) : Option (Int) := (laws_szMove.f a0_11 a0_12 a1).bind fun t107 => (if t107 < 0 then (some (-1)) else (some t107))

def laws_szHand.e (k : Nat) : Refl.Ent G := ⟨68, [(.agg gL0), (.c li)], .one (.c li), fun x => laws_szHand.f x.1 x.2.1 x.2.2.1 x.2.2.2.1 x.2.2.2.2.1 x.2.2.2.2.2.1 x.2.2.2.2.2.2.1 x.2.2.2.2.2.2.2.1 x.2.2.2.2.2.2.2.2.1 x.2.2.2.2.2.2.2.2.2.1 x.2.2.2.2.2.2.2.2.2.2.1 x.2.2.2.2.2.2.2.2.2.2.2.1 x.2.2.2.2.2.2.2.2.2.2.2.2.1 x.2.2.2.2.2.2.2.2.2.2.2.2.2⟩
theorem laws_szHand.ok (k : Nat) : Refl.EntOK Tryz.prog (laws_szHand.e k) := Refl.ent_ok 1000000 k GC (fun k => [laws_szMove.e k]) (fun k => ⟨laws_szMove.ok k, trivial⟩) Tryz.func68 (by kernel_rfl) [] (ps := []) (by kernel_rfl) trivial (fun x => by kernel_rfl)

/-! ### laws_szSign: function 37 -/

def laws_szSign.f (a0_0 : Int) (a0_1 : Int) (a0_2 : Int) (a0_3 : Int) (a0_4 : Int) (a0_5 : Bool) (a0_6 : Int) (a0_7 : Int) (a0_8 : Int) (a0_9 : Int) (a0_10 : Bool) (a0_11 : ByteArray) (a0_12 : Int) (a0_13 : Bool) (a0_14 : Int) (a0_15 : Int) (a0_16 : Int) (a0_17 : Int) (a0_18 : Int) (a0_19 : Bool) (a0_20 : Int) (a0_21 : Int) (a0_22 : Int) (a0_23 : Int) (a0_24 : Bool) (a0_25 : ByteArray) (a0_26 : Int) (a1 : Int) : Option (Int) := (laws_szHand.f a0_0 a0_1 a0_2 a0_3 a0_4 a0_5 a0_6 a0_7 a0_8 a0_9 a0_10 a0_11 a0_12 a1).bind fun t109 => (if t109 < 0 then (some (-1)) else ((laws_szHand.f a0_14 a0_15 a0_16 a0_17 a0_18 a0_19 a0_20 a0_21 a0_22 a0_23 a0_24 a0_25 a0_26 t109).bind fun t110 => (if t110 < 0 then (some (-1)) else (some t110))))

def laws_szSign.e (k : Nat) : Refl.Ent G := ⟨37, [(.agg gL1), (.c li)], .one (.c li), fun x => laws_szSign.f x.1 x.2.1 x.2.2.1 x.2.2.2.1 x.2.2.2.2.1 x.2.2.2.2.2.1 x.2.2.2.2.2.2.1 x.2.2.2.2.2.2.2.1 x.2.2.2.2.2.2.2.2.1 x.2.2.2.2.2.2.2.2.2.1 x.2.2.2.2.2.2.2.2.2.2.1 x.2.2.2.2.2.2.2.2.2.2.2.1 x.2.2.2.2.2.2.2.2.2.2.2.2.1 x.2.2.2.2.2.2.2.2.2.2.2.2.2.1 x.2.2.2.2.2.2.2.2.2.2.2.2.2.2.1 x.2.2.2.2.2.2.2.2.2.2.2.2.2.2.2.1 x.2.2.2.2.2.2.2.2.2.2.2.2.2.2.2.2.1 x.2.2.2.2.2.2.2.2.2.2.2.2.2.2.2.2.2.1 x.2.2.2.2.2.2.2.2.2.2.2.2.2.2.2.2.2.2.1 x.2.2.2.2.2.2.2.2.2.2.2.2.2.2.2.2.2.2.2.1 x.2.2.2.2.2.2.2.2.2.2.2.2.2.2.2.2.2.2.2.2.1 x.2.2.2.2.2.2.2.2.2.2.2.2.2.2.2.2.2.2.2.2.2.1 x.2.2.2.2.2.2.2.2.2.2.2.2.2.2.2.2.2.2.2.2.2.2.1 x.2.2.2.2.2.2.2.2.2.2.2.2.2.2.2.2.2.2.2.2.2.2.2.1 x.2.2.2.2.2.2.2.2.2.2.2.2.2.2.2.2.2.2.2.2.2.2.2.2.1 x.2.2.2.2.2.2.2.2.2.2.2.2.2.2.2.2.2.2.2.2.2.2.2.2.2.1 x.2.2.2.2.2.2.2.2.2.2.2.2.2.2.2.2.2.2.2.2.2.2.2.2.2.2.1 x.2.2.2.2.2.2.2.2.2.2.2.2.2.2.2.2.2.2.2.2.2.2.2.2.2.2.2⟩
theorem laws_szSign.ok (k : Nat) : Refl.EntOK Tryz.prog (laws_szSign.e k) := Refl.ent_ok 1000000 k GC (fun k => [laws_szHand.e k]) (fun k => ⟨laws_szHand.ok k, trivial⟩) Tryz.func37 (by kernel_rfl) [] (ps := []) (by kernel_rfl) trivial (fun x => by kernel_rfl)

/-! ### laws_szConstraintS: function 38 -/

def laws_szConstraintS.f (l0 : List (S114)) (a1 : Int) : Option (Int) := if (wrap64 (a1 - (l0.length : Int))) < 0 then (some (-1)) else (some (wrap64 (a1 - (l0.length : Int))))

def laws_szConstraintS.e (k : Nat) : Refl.Ent G := ⟨38, [(.c (.row 114 false)), (.c li)], .one (.c li), fun x => laws_szConstraintS.f x.1 x.2⟩
theorem laws_szConstraintS.ok (k : Nat) : Refl.EntOK Tryz.prog (laws_szConstraintS.e k) := Refl.ent_ok 1000000 k GC (fun k => []) (fun k => trivial) Tryz.func38 (by kernel_rfl) [] (ps := []) (by kernel_rfl) trivial (fun x => by kernel_rfl)

/-! ### spec_l1In: function 132 -/

def spec_l1In.f (a0 : Int) (a1 : Int) (a2 : Int) : Option (Bool) := if a0 ≥ a1 then (some (decide (a0 ≤ a2))) else (some false)

def spec_l1In.e (k : Nat) : Refl.Ent G := ⟨132, [(.c li), (.c li), (.c li)], .one (.c .bool), fun x => spec_l1In.f x.1 x.2.1 x.2.2⟩
theorem spec_l1In.ok (k : Nat) : Refl.EntOK Tryz.prog (spec_l1In.e k) := Refl.ent_ok 1000000 k GC (fun k => []) (fun k => trivial) Tryz.func132 (by kernel_rfl) [] (ps := []) (by kernel_rfl) trivial (fun x => by kernel_rfl)

/-! ### spec_shFingers: function 146 -/

def spec_shFingers.f (a0_0 : Int) (a0_1 : Int) (a0_2 : Int) (a0_3 : Int) (a0_4 : Int) (a0_5 : Bool) : Option (List Int) := some (([a0_1, a0_2, a0_3, a0_4] : List Int))

def spec_shFingers.e (k : Nat) : Refl.Ent G := ⟨146, [(.agg [li, li, li, li, li, .bool])], .one (.c (.row 3 true)), fun x => spec_shFingers.f x.1 x.2.1 x.2.2.1 x.2.2.2.1 x.2.2.2.2.1 x.2.2.2.2.2⟩
theorem spec_shFingers.ok (k : Nat) : Refl.EntOK Tryz.prog (spec_shFingers.e k) := Refl.ent_ok 1000000 k GC (fun k => []) (fun k => trivial) Tryz.func146 (by kernel_rfl) [] (ps := []) (by kernel_rfl) trivial (fun x => by kernel_rfl)

/-! ### spec_l1All: function 151 -/

def spec_l1All.l0 : Nat → Int → Int → List Int → Int → Int → Option (Bool)
  | 0, _, _, _, _, _ => none
  | k + 1, x1, x2, x9, x10, x11 => if x11 < x10 then (if 0 ≤ x11 then (if x11 < (x9.length : Int) then ((spec_l1In.f (rd x9 x11) x1 x2).bind fun t116 => (if t116 = true then (spec_l1All.l0 k x1 x2 x9 x10 (wrap64 (x11 + 1))) else (some false))) else (none)) else (none)) else (some true)

def spec_l1All.f (k : Nat) (l0 : List Int) (a1 : Int) (a2 : Int) : Option (Bool) := spec_l1All.l0 k a1 a2 l0 (l0.length : Int) 0

theorem spec_l1All.mono_l : ∀ k, (∀ y0 y1 y2 y3 y4, LeO (spec_l1All.l0 k y0 y1 y2 y3 y4) (spec_l1All.l0 (k + 1) y0 y1 y2 y3 y4))
  | 0 => fun _ _ _ _ _ r h => by simp [spec_l1All.l0] at h
  | k + 1 => by
    have ih0 := spec_l1All.mono_l k
    · intro y0 y1 y2 y3 y4
      unfold spec_l1All.l0
      repeat' first
      | (with_reducible exact ih0 _ _ _ _ _)
      | (with_reducible exact LeO.refl _)
      | (with_reducible exact LeO.none _)
      | (with_reducible refine LeO.ite ?_ ?_)
      | (with_reducible refine LeO.bind ?_ (fun _ => ?_))
      | exact ih0 _ _ _ _ _
      | exact LeO.none _
      | refine LeO.ite ?_ ?_
      | refine LeO.bind ?_ (fun _ => ?_)

theorem spec_l1All.mono : ∀ a0 a1 a2 k, LeO (spec_l1All.f k a0 a1 a2) (spec_l1All.f (k + 1) a0 a1 a2) := by
  intro a0 a1 a2 k
  have ih0 := spec_l1All.mono_l k
  unfold spec_l1All.f
  repeat' first
      | (with_reducible exact ih0 _ _ _ _ _)
      | (with_reducible exact LeO.refl _)
      | (with_reducible exact LeO.none _)
      | (with_reducible refine LeO.ite ?_ ?_)
      | (with_reducible refine LeO.bind ?_ (fun _ => ?_))
      | exact ih0 _ _ _ _ _
      | exact LeO.none _
      | refine LeO.ite ?_ ?_
      | refine LeO.bind ?_ (fun _ => ?_)

def spec_l1All.e (k : Nat) : Refl.Ent G := ⟨151, [(.c (.row 3 false)), (.c li), (.c li)], .one (.c .bool), fun x => spec_l1All.f k x.1 x.2.1 x.2.2⟩
def spec_l1All.pl0 : Refl.Pn G (Refl.PT G (spec_l1All.e 0).ol) := ⟨true, 0, ⟨[(1, .v (.c li)), (2, .v (.c li)), (9, .v (.c (.row 3 false))), (10, .v (.c li)), (11, .v (.c li)), (6, .k (Value.bool false))], []⟩, fun k x => spec_l1All.l0 k x.1 x.2.1 x.2.2.1 x.2.2.2.1 x.2.2.2.2⟩
theorem spec_l1All.ok (k : Nat) : Refl.EntOK Tryz.prog (spec_l1All.e k) := Refl.ent_ok 1000000 k GC (fun k => [spec_l1In.e k]) (fun k => ⟨spec_l1In.ok k, trivial⟩) Tryz.func151 (by kernel_rfl) [spec_l1All.pl0] (ps := [spec_l1All.pl0]) (by kernel_rfl) ⟨⟨fun x => by kernel_rfl, fun k x => by kernel_rfl⟩, trivial⟩ (fun x => by kernel_rfl)

/-! ### spec_shWide: function 152 -/

def spec_shWide.l0 : Nat → List Int → Int → Option (Bool)
  | 0, _, _ => none
  | k + 1, x3, x4 => if x4 < 4 then (if 0 ≤ (wrap64 (x4 - 1)) then (if (wrap64 (x4 - 1)) < (x3.length : Int) then (if (rd x3 (wrap64 (x4 - 1))) = 0 then (if 0 ≤ x4 then (if x4 < (x3.length : Int) then (if (rd x3 x4) = 0 then (some true) else (spec_shWide.l0 k x3 (wrap64 (x4 + 1)))) else (none)) else (none)) else (spec_shWide.l0 k x3 (wrap64 (x4 + 1)))) else (none)) else (none)) else (some false)

def spec_shWide.f (k : Nat) (a0_0 : Int) (a0_1 : Int) (a0_2 : Int) (a0_3 : Int) (a0_4 : Int) (a0_5 : Bool) : Option (Bool) := (spec_shFingers.f a0_0 a0_1 a0_2 a0_3 a0_4 a0_5).bind fun t118 => (spec_shWide.l0 k t118 1)

theorem spec_shWide.mono_l : ∀ k, (∀ y0 y1, LeO (spec_shWide.l0 k y0 y1) (spec_shWide.l0 (k + 1) y0 y1))
  | 0 => fun _ _ r h => by simp [spec_shWide.l0] at h
  | k + 1 => by
    have ih0 := spec_shWide.mono_l k
    · intro y0 y1
      unfold spec_shWide.l0
      repeat' first
      | (with_reducible exact ih0 _ _)
      | (with_reducible exact LeO.refl _)
      | (with_reducible exact LeO.none _)
      | (with_reducible refine LeO.ite ?_ ?_)
      | (with_reducible refine LeO.bind ?_ (fun _ => ?_))
      | exact ih0 _ _
      | exact LeO.none _
      | refine LeO.ite ?_ ?_
      | refine LeO.bind ?_ (fun _ => ?_)

theorem spec_shWide.mono : ∀ a0 a1 a2 a3 a4 a5 k, LeO (spec_shWide.f k a0 a1 a2 a3 a4 a5) (spec_shWide.f (k + 1) a0 a1 a2 a3 a4 a5) := by
  intro a0 a1 a2 a3 a4 a5 k
  have ih0 := spec_shWide.mono_l k
  unfold spec_shWide.f
  repeat' first
      | (with_reducible exact ih0 _ _)
      | (with_reducible exact LeO.refl _)
      | (with_reducible exact LeO.none _)
      | (with_reducible refine LeO.ite ?_ ?_)
      | (with_reducible refine LeO.bind ?_ (fun _ => ?_))
      | exact ih0 _ _
      | exact LeO.none _
      | refine LeO.ite ?_ ?_
      | refine LeO.bind ?_ (fun _ => ?_)

def spec_shWide.e (k : Nat) : Refl.Ent G := ⟨152, [(.agg [li, li, li, li, li, .bool])], .one (.c .bool), fun x => spec_shWide.f k x.1 x.2.1 x.2.2.1 x.2.2.2.1 x.2.2.2.2.1 x.2.2.2.2.2⟩
def spec_shWide.pl0 : Refl.Pn G (Refl.PT G (spec_shWide.e 0).ol) := ⟨true, 0, ⟨[(3, .v (.c (.row 3 false))), (4, .v (.c li)), (2, .k (Value.bool false))], []⟩, fun k x => spec_shWide.l0 k x.1 x.2⟩
theorem spec_shWide.ok (k : Nat) : Refl.EntOK Tryz.prog (spec_shWide.e k) := Refl.ent_ok 1000000 k GC (fun k => [spec_shFingers.e k]) (fun k => ⟨spec_shFingers.ok k, trivial⟩) Tryz.func152 (by kernel_rfl) [spec_shWide.pl0] (ps := [spec_shWide.pl0]) (by kernel_rfl) ⟨⟨fun x => by kernel_rfl, fun k x => by kernel_rfl⟩, trivial⟩ (fun x => by kernel_rfl)

/-! ### spec_shGood: function 106 -/

def spec_shGood.f (k : Nat) (a0_0 : Int) (a0_1 : Int) (a0_2 : Int) (a0_3 : Int) (a0_4 : Int) (a0_5 : Bool) : Option (Bool) := (spec_l1In.f a0_0 0 2).bind fun t124 => (if t124 = true then ((spec_shFingers.f a0_0 a0_1 a0_2 a0_3 a0_4 a0_5).bind fun t125 => ((spec_l1All.f k t125 0 2).bind fun t128 => (if t128 = true then (if a0_5 = true then ((spec_shWide.f k a0_0 a0_1 a0_2 a0_3 a0_4 a0_5).bind fun t129 => (some t129)) else (some true)) else (some false)))) else (some false))

theorem spec_shGood.mono : ∀ a0 a1 a2 a3 a4 a5 k, LeO (spec_shGood.f k a0 a1 a2 a3 a4 a5) (spec_shGood.f (k + 1) a0 a1 a2 a3 a4 a5) := by
  intro a0 a1 a2 a3 a4 a5 k
  unfold spec_shGood.f
  repeat' first
      | (with_reducible exact spec_l1All.mono _ _ _ _)
      | (with_reducible exact spec_shWide.mono _ _ _ _ _ _ _)
      | (with_reducible exact LeO.refl _)
      | (with_reducible exact LeO.none _)
      | (with_reducible refine LeO.ite ?_ ?_)
      | (with_reducible refine LeO.bind ?_ (fun _ => ?_))
      | exact spec_l1All.mono _ _ _ _
      | exact spec_shWide.mono _ _ _ _ _ _ _
      | exact LeO.none _
      | refine LeO.ite ?_ ?_
      | refine LeO.bind ?_ (fun _ => ?_)

def spec_shGood.e (k : Nat) : Refl.Ent G := ⟨106, [(.agg [li, li, li, li, li, .bool])], .one (.c .bool), fun x => spec_shGood.f k x.1 x.2.1 x.2.2.1 x.2.2.2.1 x.2.2.2.2.1 x.2.2.2.2.2⟩
theorem spec_shGood.ok (k : Nat) : Refl.EntOK Tryz.prog (spec_shGood.e k) := Refl.ent_ok 1000000 k GC (fun k => [spec_l1In.e k, spec_shFingers.e k, spec_l1All.e k, spec_shWide.e k]) (fun k => ⟨spec_l1In.ok k, spec_shFingers.ok k, spec_l1All.ok k, spec_shWide.ok k, trivial⟩) Tryz.func106 (by kernel_rfl) [] (ps := []) (by kernel_rfl) trivial (fun x => by kernel_rfl)

/-! ### spec_orDir: function 153 -/

def spec_orDir.f (a0 : Int) : Option (Bool) := (spec_l1In.f a0 0 5).bind fun t130 => (some t130)

def spec_orDir.e (k : Nat) : Refl.Ent G := ⟨153, [(.c li)], .one (.c .bool), fun x => spec_orDir.f x⟩
theorem spec_orDir.ok (k : Nat) : Refl.EntOK Tryz.prog (spec_orDir.e k) := Refl.ent_ok 1000000 k GC (fun k => [spec_l1In.e k]) (fun k => ⟨spec_l1In.ok k, trivial⟩) Tryz.func153 (by kernel_rfl) [] (ps := []) (by kernel_rfl) trivial (fun x => by kernel_rfl)

/-! ### spec_orOpposite: function 154 -/

def spec_orOpposite.f (a0 : Int) : Option (Int) := if (Int.tmod a0 2) = 0 then (some (wrap64 (a0 + 1))) else (some (wrap64 (a0 - 1)))

def spec_orOpposite.e (k : Nat) : Refl.Ent G := ⟨154, [(.c li)], .one (.c li), fun x => spec_orOpposite.f x⟩
theorem spec_orOpposite.ok (k : Nat) : Refl.EntOK Tryz.prog (spec_orOpposite.e k) := Refl.ent_ok 1000000 k GC (fun k => []) (fun k => trivial) Tryz.func154 (by kernel_rfl) [] (ps := []) (by kernel_rfl) trivial (fun x => by kernel_rfl)

/-! ### spec_orGood: function 107 -/

def spec_orGood.f (a0_0 : Int) (a0_1 : Int) : Option (Bool) := (spec_orDir.f a0_0).bind fun t132 => (if t132 = true then ((spec_orDir.f a0_1).bind fun t133 => (if t133 = true then (if a0_0 = a0_1 then (some false) else ((spec_orOpposite.f a0_1).bind fun t134 => (some (a0_0 != t134)))) else (some false))) else (some false))

def spec_orGood.e (k : Nat) : Refl.Ent G := ⟨107, [(.agg [li, li])], .one (.c .bool), fun x => spec_orGood.f x.1 x.2⟩
theorem spec_orGood.ok (k : Nat) : Refl.EntOK Tryz.prog (spec_orGood.e k) := Refl.ent_ok 1000000 k GC (fun k => [spec_orDir.e k, spec_orOpposite.e k]) (fun k => ⟨spec_orDir.ok k, spec_orOpposite.ok k, trivial⟩) Tryz.func107 (by kernel_rfl) [] (ps := []) (by kernel_rfl) trivial (fun x => by kernel_rfl)

/-! ### spec_plGood: function 108 -/

def spec_plGood.f (a0_0 : Int) (a0_1 : Int) (a0_2 : Bool) : Option (Bool) := (spec_l1In.f a0_0 0 9).bind fun t136 => (if t136 = true then ((spec_l1In.f a0_1 (-1) 1).bind fun t137 => (if t137 = true then (if a0_0 > 0 then (some true) else (some (!a0_2))) else (some false))) else (some false))

def spec_plGood.e (k : Nat) : Refl.Ent G := ⟨108, [(.agg [li, li, .bool])], .one (.c .bool), fun x => spec_plGood.f x.1 x.2.1 x.2.2⟩
theorem spec_plGood.ok (k : Nat) : Refl.EntOK Tryz.prog (spec_plGood.e k) := Refl.ent_ok 1000000 k GC (fun k => [spec_l1In.e k]) (fun k => ⟨spec_l1In.ok k, trivial⟩) Tryz.func108 (by kernel_rfl) [] (ps := []) (by kernel_rfl) trivial (fun x => by kernel_rfl)

/-! ### spec_mvLetters: function 210 -/

def spec_mvLetters.f  : Option (ByteArray) := some (⟨#[117, 100, 108, 114, 102, 98]⟩ : ByteArray)

def spec_mvLetters.e (k : Nat) : Refl.Ent G := ⟨210, [], .one (.c .str), fun _ => spec_mvLetters.f ⟩
theorem spec_mvLetters.ok (k : Nat) : Refl.EntOK Tryz.prog (spec_mvLetters.e k) := Refl.ent_ok 1000000 k GC (fun k => []) (fun k => trivial) Tryz.func210 (by kernel_rfl) [] (ps := []) (by kernel_rfl) trivial (fun x => by kernel_rfl)

/-! ### spec_mvIndex: function 189 -/

def spec_mvIndex.l0 : Nat → Int → Int → Option (Int)
  | 0, _, _ => none
  | k + 1, x0, x3 => (spec_mvLetters.f).bind fun t138 => (if x3 < (t138.size : Int) then ((spec_mvLetters.f).bind fun t139 => (if 0 ≤ x3 then (if x3 < (t139.size : Int) then (if (bt t139 x3) = x0 then (some x3) else (spec_mvIndex.l0 k x0 (wrap64 (x3 + 1)))) else (none)) else (none))) else (some (-1)))

def spec_mvIndex.f (k : Nat) (a0 : Int) : Option (Int) := spec_mvIndex.l0 k a0 0

theorem spec_mvIndex.mono_l : ∀ k, (∀ y0 y1, LeO (spec_mvIndex.l0 k y0 y1) (spec_mvIndex.l0 (k + 1) y0 y1))
  | 0 => fun _ _ r h => by simp [spec_mvIndex.l0] at h
  | k + 1 => by
    have ih0 := spec_mvIndex.mono_l k
    · intro y0 y1
      unfold spec_mvIndex.l0
      repeat' first
      | (with_reducible exact ih0 _ _)
      | (with_reducible exact LeO.refl _)
      | (with_reducible exact LeO.none _)
      | (with_reducible refine LeO.ite ?_ ?_)
      | (with_reducible refine LeO.bind ?_ (fun _ => ?_))
      | exact ih0 _ _
      | exact LeO.none _
      | refine LeO.ite ?_ ?_
      | refine LeO.bind ?_ (fun _ => ?_)

theorem spec_mvIndex.mono : ∀ a0 k, LeO (spec_mvIndex.f k a0) (spec_mvIndex.f (k + 1) a0) := by
  intro a0 k
  have ih0 := spec_mvIndex.mono_l k
  unfold spec_mvIndex.f
  repeat' first
      | (with_reducible exact ih0 _ _)
      | (with_reducible exact LeO.refl _)
      | (with_reducible exact LeO.none _)
      | (with_reducible refine LeO.ite ?_ ?_)
      | (with_reducible refine LeO.bind ?_ (fun _ => ?_))
      | exact ih0 _ _
      | exact LeO.none _
      | refine LeO.ite ?_ ?_
      | refine LeO.bind ?_ (fun _ => ?_)

def spec_mvIndex.e (k : Nat) : Refl.Ent G := ⟨189, [(.c (.int .u8))], .one (.c li), fun x => spec_mvIndex.f k x⟩
def spec_mvIndex.pl0 : Refl.Pn G (Refl.PT G (spec_mvIndex.e 0).ol) := ⟨true, 0, ⟨[(0, .v (.c (.int .u8))), (3, .v (.c li)), (2, .k (Value.int IntKind.i64 0))], []⟩, fun k x => spec_mvIndex.l0 k x.1 x.2⟩
theorem spec_mvIndex.ok (k : Nat) : Refl.EntOK Tryz.prog (spec_mvIndex.e k) := Refl.ent_ok 1000000 k GC (fun k => [spec_mvLetters.e k]) (fun k => ⟨spec_mvLetters.ok k, trivial⟩) Tryz.func189 (by kernel_rfl) [spec_mvIndex.pl0] (ps := [spec_mvIndex.pl0]) (by kernel_rfl) ⟨⟨fun x => by kernel_rfl, fun k x => by kernel_rfl⟩, trivial⟩ (fun x => by kernel_rfl)

/-! ### spec_mvSteps: function 155 -/

def spec_mvSteps.l0 : Nat → ByteArray → Int → Option (Bool)
  | 0, _, _ => none
  | k + 1, x0, x3 => if x3 < (x0.size : Int) then (if 0 ≤ x3 then (if x3 < (x0.size : Int) then ((spec_mvIndex.f k (bt x0 x3)).bind fun t140 => (if t140 < 0 then (some false) else (spec_mvSteps.l0 k x0 (wrap64 (x3 + 1))))) else (none)) else (none)) else (some true)

def spec_mvSteps.f (k : Nat) (a0 : ByteArray) : Option (Bool) := spec_mvSteps.l0 k a0 0

theorem spec_mvSteps.mono_l : ∀ k, (∀ y0 y1, LeO (spec_mvSteps.l0 k y0 y1) (spec_mvSteps.l0 (k + 1) y0 y1))
  | 0 => fun _ _ r h => by simp [spec_mvSteps.l0] at h
  | k + 1 => by
    have ih0 := spec_mvSteps.mono_l k
    · intro y0 y1
      unfold spec_mvSteps.l0
      repeat' first
      | (with_reducible exact ih0 _ _)
      | (with_reducible exact spec_mvIndex.mono _ _)
      | (with_reducible exact LeO.refl _)
      | (with_reducible exact LeO.none _)
      | (with_reducible refine LeO.ite ?_ ?_)
      | (with_reducible refine LeO.bind ?_ (fun _ => ?_))
      | exact ih0 _ _
      | exact spec_mvIndex.mono _ _
      | exact LeO.none _
      | refine LeO.ite ?_ ?_
      | refine LeO.bind ?_ (fun _ => ?_)

theorem spec_mvSteps.mono : ∀ a0 k, LeO (spec_mvSteps.f k a0) (spec_mvSteps.f (k + 1) a0) := by
  intro a0 k
  have ih0 := spec_mvSteps.mono_l k
  unfold spec_mvSteps.f
  repeat' first
      | (with_reducible exact ih0 _ _)
      | (with_reducible exact spec_mvIndex.mono _ _)
      | (with_reducible exact LeO.refl _)
      | (with_reducible exact LeO.none _)
      | (with_reducible refine LeO.ite ?_ ?_)
      | (with_reducible refine LeO.bind ?_ (fun _ => ?_))
      | exact ih0 _ _
      | exact spec_mvIndex.mono _ _
      | exact LeO.none _
      | refine LeO.ite ?_ ?_
      | refine LeO.bind ?_ (fun _ => ?_)

def spec_mvSteps.e (k : Nat) : Refl.Ent G := ⟨155, [(.c .str)], .one (.c .bool), fun x => spec_mvSteps.f k x⟩
def spec_mvSteps.pl0 : Refl.Pn G (Refl.PT G (spec_mvSteps.e 0).ol) := ⟨true, 0, ⟨[(0, .v (.c .str)), (3, .v (.c li)), (2, .k (Value.bool false))], []⟩, fun k x => spec_mvSteps.l0 k x.1 x.2⟩
theorem spec_mvSteps.ok (k : Nat) : Refl.EntOK Tryz.prog (spec_mvSteps.e k) := Refl.ent_ok 1000000 k GC (fun k => [spec_mvIndex.e k]) (fun k => ⟨spec_mvIndex.ok k, trivial⟩) Tryz.func155 (by kernel_rfl) [spec_mvSteps.pl0] (ps := [spec_mvSteps.pl0]) (by kernel_rfl) ⟨⟨fun x => by kernel_rfl, fun k x => by kernel_rfl⟩, trivial⟩ (fun x => by kernel_rfl)

/-! ### spec_mvGood: function 109 -/

def spec_mvGood.f (k : Nat) (a0_0 : ByteArray) (a0_1 : Int) : Option (Bool) := if (a0_0.size : Int) ≤ 6 then ((spec_mvSteps.f k a0_0).bind fun t142 => (if t142 = true then ((spec_l1In.f a0_1 1 3).bind fun t143 => (if t143 = true then (if a0_0.toList = ([] : List UInt8) then (some (a0_1 == 1)) else (some true)) else (some false))) else (some false))) else (some false)

theorem spec_mvGood.mono : ∀ a0 a1 k, LeO (spec_mvGood.f k a0 a1) (spec_mvGood.f (k + 1) a0 a1) := by
  intro a0 a1 k
  unfold spec_mvGood.f
  repeat' first
      | (with_reducible exact spec_mvSteps.mono _ _)
      | (with_reducible exact LeO.refl _)
      | (with_reducible exact LeO.none _)
      | (with_reducible refine LeO.ite ?_ ?_)
      | (with_reducible refine LeO.bind ?_ (fun _ => ?_))
      | exact spec_mvSteps.mono _ _
      | exact LeO.none _
      | refine LeO.ite ?_ ?_
      | refine LeO.bind ?_ (fun _ => ?_)

def spec_mvGood.e (k : Nat) : Refl.Ent G := ⟨109, [(.agg [.str, li])], .one (.c .bool), fun x => spec_mvGood.f k x.1 x.2⟩
theorem spec_mvGood.ok (k : Nat) : Refl.EntOK Tryz.prog (spec_mvGood.e k) := Refl.ent_ok 1000000 k GC (fun k => [spec_mvSteps.e k, spec_l1In.e k]) (fun k => ⟨spec_mvSteps.ok k, spec_l1In.ok k, trivial⟩) Tryz.func109 (by kernel_rfl) [] (ps := []) (by kernel_rfl) trivial (fun x => by kernel_rfl)

/-! ### spec_siHand: function 56 -/

def spec_siHand.f (k : Nat) (a0_0 : Int) (a0_1 : Int) (a0_2 : Int) (a0_3 : Int) (a0_4 : Int) (a0_5 : Bool) (a0_6 : Int) (a0_7 : Int) (a0_8 : Int) (a0_9 : Int) (a0_10 : Bool) (a0_11 : ByteArray) (a0_12 : Int) : Option (Bool) := (spec_shGood.f k a0_0 a0_1 a0_2 a0_3 a0_4 a0_5).bind fun t145 => (if t145 = true then ((spec_orGood.f a0_6 a0_7).bind fun t146 => (if t146 = true then ((spec_plGood.f a0_8 a0_9 a0_10).bind fun t147 => (if t147 = true then ((spec_mvGood.f k a0_11 a0_12).bind fun t148 => (some t148)) else (some false))) else (some false))) else (some false))

theorem spec_siHand.mono : ∀ a0 a1 a2 a3 a4 a5 a6 a7 a8 a9 a10 a11 a12 k, LeO (spec_siHand.f k a0 a1 a2 a3 a4 a5 a6 a7 a8 a9 a10 a11 a12) (spec_siHand.f (k + 1) a0 a1 a2 a3 a4 a5 a6 a7 a8 a9 a10 a11 a12) := by
  intro a0 a1 a2 a3 a4 a5 a6 a7 a8 a9 a10 a11 a12 k
  unfold spec_siHand.f
  repeat' first
      | (with_reducible exact spec_mvGood.mono _ _ _)
      | (with_reducible exact spec_shGood.mono _ _ _ _ _ _ _)
      | (with_reducible exact LeO.refl _)
      | (with_reducible exact LeO.none _)
      | (with_reducible refine LeO.ite ?_ ?_)
      | (with_reducible refine LeO.bind ?_ (fun _ => ?_))
      | exact spec_mvGood.mono _ _ _
      | exact spec_shGood.mono _ _ _ _ _ _ _
      | exact LeO.none _
      | refine LeO.ite ?_ ?_
      | refine LeO.bind ?_ (fun _ => ?_)

def spec_siHand.e (k : Nat) : Refl.Ent G := ⟨56, [(.agg gL0)], .one (.c .bool), fun x => spec_siHand.f k x.1 x.2.1 x.2.2.1 x.2.2.2.1 x.2.2.2.2.1 x.2.2.2.2.2.1 x.2.2.2.2.2.2.1 x.2.2.2.2.2.2.2.1 x.2.2.2.2.2.2.2.2.1 x.2.2.2.2.2.2.2.2.2.1 x.2.2.2.2.2.2.2.2.2.2.1 x.2.2.2.2.2.2.2.2.2.2.2.1 x.2.2.2.2.2.2.2.2.2.2.2.2⟩
theorem spec_siHand.ok (k : Nat) : Refl.EntOK Tryz.prog (spec_siHand.e k) := Refl.ent_ok 1000000 k GC (fun k => [spec_shGood.e k, spec_orGood.e k, spec_plGood.e k, spec_mvGood.e k]) (fun k => ⟨spec_shGood.ok k, spec_orGood.ok k, spec_plGood.ok k, spec_mvGood.ok k, trivial⟩) Tryz.func56 (by kernel_rfl) [] (ps := []) (by kernel_rfl) trivial (fun x => by kernel_rfl)

/-! ### spec_shParse: function 80 -/

mutual
def spec_shParse.j0 : Nat → ByteArray → Bool → Option (Int × Int × Int × Int × Int × Bool × Bool)
  | 0, _, _ => none
  | k + 1, x0, x20 => if x20 = true then (some (0, 0, 0, 0, 0, false, false)) else (spec_shParse.l0 k x0 ([] : List Int) 0)
def spec_shParse.l0 : Nat → ByteArray → List Int → Int → Option (Int × Int × Int × Int × Int × Bool × Bool)
  | 0, _, _, _ => none
  | k + 1, x0, x4, x5 => if x5 < 5 then (if 0 ≤ x5 then (if x5 < (x0.size : Int) then (if x4.length < 17592186044416 then (spec_shParse.l0 k x0 (x4 ++ [wrap64 ((wrap64 (bt x0 x5)) - 48)]) (wrap64 (x5 + 1))) else (none)) else (none)) else (none)) else (if 0 < (x4.length : Int) then (if 1 < (x4.length : Int) then (if 2 < (x4.length : Int) then (if 3 < (x4.length : Int) then (if 4 < (x4.length : Int) then ((spec_shGood.f k (rd x4 0) (rd x4 1) (rd x4 2) (rd x4 3) (rd x4 4) ((x0.size : Int) == 6)).bind fun t160 => (if t160 = true then (some (rd x4 0, rd x4 1, rd x4 2, rd x4 3, rd x4 4, ((x0.size : Int) == 6), true)) else (some (0, 0, 0, 0, 0, false, false)))) else (none)) else (none)) else (none)) else (none)) else (none))
end

def spec_shParse.f (k : Nat) (a0 : ByteArray) : Option (Int × Int × Int × Int × Int × Bool × Bool) := (spec_l1In.f (a0.size : Int) 5 6).bind fun t150 => (if t150 = true then (if (a0.size : Int) = 6 then (if 5 < (a0.size : Int) then (spec_shParse.j0 k a0 ((bt a0 5) != 115)) else (none)) else (spec_shParse.j0 k a0 false)) else (spec_shParse.j0 k a0 true))

theorem spec_shParse.mono_l : ∀ k, (∀ y0 y1, LeO (spec_shParse.j0 k y0 y1) (spec_shParse.j0 (k + 1) y0 y1)) ∧ (∀ y0 y1 y2, LeO (spec_shParse.l0 k y0 y1 y2) (spec_shParse.l0 (k + 1) y0 y1 y2))
  | 0 => ⟨fun _ _ r h => by simp [spec_shParse.j0] at h, fun _ _ _ r h => by simp [spec_shParse.l0] at h⟩
  | k + 1 => by
    obtain ⟨ih0, ih1⟩ := spec_shParse.mono_l k
    refine ⟨?_, ?_⟩
    · intro y0 y1
      unfold spec_shParse.j0
      repeat' first
      | (with_reducible exact ih0 _ _)
      | (with_reducible exact ih1 _ _ _)
      | (with_reducible exact spec_shGood.mono _ _ _ _ _ _ _)
      | (with_reducible exact LeO.refl _)
      | (with_reducible exact LeO.none _)
      | (with_reducible refine LeO.ite ?_ ?_)
      | (with_reducible refine LeO.bind ?_ (fun _ => ?_))
      | exact ih0 _ _
      | exact ih1 _ _ _
      | exact spec_shGood.mono _ _ _ _ _ _ _
      | exact LeO.none _
      | refine LeO.ite ?_ ?_
      | refine LeO.bind ?_ (fun _ => ?_)
    · intro y0 y1 y2
      unfold spec_shParse.l0
      repeat' first
      | (with_reducible exact ih0 _ _)
      | (with_reducible exact ih1 _ _ _)
      | (with_reducible exact spec_shGood.mono _ _ _ _ _ _ _)
      | (with_reducible exact LeO.refl _)
      | (with_reducible exact LeO.none _)
      | (with_reducible refine LeO.ite ?_ ?_)
      | (with_reducible refine LeO.bind ?_ (fun _ => ?_))
      | exact ih0 _ _
      | exact ih1 _ _ _
      | exact spec_shGood.mono _ _ _ _ _ _ _
      | exact LeO.none _
      | refine LeO.ite ?_ ?_
      | refine LeO.bind ?_ (fun _ => ?_)

theorem spec_shParse.mono : ∀ a0 k, LeO (spec_shParse.f k a0) (spec_shParse.f (k + 1) a0) := by
  intro a0 k
  obtain ⟨ih0, ih1⟩ := spec_shParse.mono_l k
  unfold spec_shParse.f
  repeat' first
      | (with_reducible exact ih0 _ _)
      | (with_reducible exact ih1 _ _ _)
      | (with_reducible exact spec_shGood.mono _ _ _ _ _ _ _)
      | (with_reducible exact LeO.refl _)
      | (with_reducible exact LeO.none _)
      | (with_reducible refine LeO.ite ?_ ?_)
      | (with_reducible refine LeO.bind ?_ (fun _ => ?_))
      | exact ih0 _ _
      | exact ih1 _ _ _
      | exact spec_shGood.mono _ _ _ _ _ _ _
      | exact LeO.none _
      | refine LeO.ite ?_ ?_
      | refine LeO.bind ?_ (fun _ => ?_)

def spec_shParse.e (k : Nat) : Refl.Ent G := ⟨80, [(.c .str)], .tup [(.agg [li, li, li, li, li, .bool]), (.c .bool)], fun x => spec_shParse.f k x⟩
def spec_shParse.pj0 : Refl.Pn G (Refl.PT G (spec_shParse.e 0).ol) := ⟨false, 1000001, ⟨[(0, .v (.c .str)), (20, .v (.c .bool)), (2, .box 2 0), (3, .k (Value.bool false))], [(2, 23, gL2)]⟩, fun k x => spec_shParse.j0 k x.1 x.2⟩
def spec_shParse.pl0 : Refl.Pn G (Refl.PT G (spec_shParse.e 0).ol) := ⟨true, 0, ⟨[(0, .v (.c .str)), (4, .v (.c (.row 3 true))), (5, .v (.c li)), (2, .box 2 0), (3, .k (Value.bool false))], [(2, 23, gL2)]⟩, fun k x => spec_shParse.l0 k x.1 x.2.1 x.2.2⟩
theorem spec_shParse.ok (k : Nat) : Refl.EntOK Tryz.prog (spec_shParse.e k) := Refl.ent_ok 1000000 k GC (fun k => [spec_l1In.e k, spec_shGood.e k]) (fun k => ⟨spec_l1In.ok k, spec_shGood.ok k, trivial⟩) Tryz.func80 (by kernel_rfl) [spec_shParse.pj0, spec_shParse.pl0] (ps := [spec_shParse.pj0, spec_shParse.pl0]) (by kernel_rfl) ⟨⟨fun x => by kernel_rfl, fun k x => by kernel_rfl⟩, ⟨fun x => by kernel_rfl, fun k x => by kernel_rfl⟩, trivial⟩ (fun x => by kernel_rfl)

/-! ### spec_siPlain: function 160 -/

def spec_siPlain.l0 : Nat → List (S23) → List ByteArray → Int → Int → Option ((List (S23)))
  | 0, _, _, _, _ => none
  | k + 1, x1, x6, x7, x8 => if x8 < x7 then (if 0 ≤ x8 then (if x8 < (x6.length : Int) then ((spec_shParse.f k (rdOf ByteArray.empty x6 x8)).bind fun bt165 => (if x1.length < 2932031007402 then (spec_siPlain.l0 k (x1 ++ [(⟨bt165.1, bt165.2.1, bt165.2.2.1, bt165.2.2.2.1, bt165.2.2.2.2.1, bt165.2.2.2.2.2.1⟩ : S23)]) x6 x7 (wrap64 (x8 + 1))) else (none))) else (none)) else (none)) else (some x1)

def spec_siPlain.f (k : Nat)  : Option ((List (S23))) := (some (([(⟨#[48, 48, 48, 48, 48]⟩ : ByteArray), (⟨#[48, 48, 48, 48, 48, 115]⟩ : ByteArray), (⟨#[50, 50, 50, 50, 50]⟩ : ByteArray), (⟨#[49, 48, 48, 48, 48]⟩ : ByteArray), (⟨#[49, 48, 50, 50, 50]⟩ : ByteArray), (⟨#[48, 48, 50, 50, 50]⟩ : ByteArray)] : List ByteArray) : List ByteArray)).bind fun y161 => (spec_siPlain.l0 k ([] : List (S23)) y161 (y161.length : Int) 0)

theorem spec_siPlain.mono_l : ∀ k, (∀ y0 y1 y2 y3, LeO (spec_siPlain.l0 k y0 y1 y2 y3) (spec_siPlain.l0 (k + 1) y0 y1 y2 y3))
  | 0 => fun _ _ _ _ r h => by simp [spec_siPlain.l0] at h
  | k + 1 => by
    have ih0 := spec_siPlain.mono_l k
    · intro y0 y1 y2 y3
      unfold spec_siPlain.l0
      repeat' first
      | (with_reducible exact ih0 _ _ _ _)
      | (with_reducible exact spec_shParse.mono _ _)
      | (with_reducible exact LeO.refl _)
      | (with_reducible exact LeO.none _)
      | (with_reducible refine LeO.ite ?_ ?_)
      | (with_reducible refine LeO.bind ?_ (fun _ => ?_))
      | exact ih0 _ _ _ _
      | exact spec_shParse.mono _ _
      | exact LeO.none _
      | refine LeO.ite ?_ ?_
      | refine LeO.bind ?_ (fun _ => ?_)

theorem spec_siPlain.mono : ∀ k, LeO (spec_siPlain.f k ) (spec_siPlain.f (k + 1) ) := by
  intro  k
  have ih0 := spec_siPlain.mono_l k
  unfold spec_siPlain.f
  repeat' first
      | (with_reducible exact ih0 _ _ _ _)
      | (with_reducible exact spec_shParse.mono _ _)
      | (with_reducible exact LeO.refl _)
      | (with_reducible exact LeO.none _)
      | (with_reducible refine LeO.ite ?_ ?_)
      | (with_reducible refine LeO.bind ?_ (fun _ => ?_))
      | exact ih0 _ _ _ _
      | exact spec_shParse.mono _ _
      | exact LeO.none _
      | refine LeO.ite ?_ ?_
      | refine LeO.bind ?_ (fun _ => ?_)

def spec_siPlain.e (k : Nat) : Refl.Ent G := ⟨160, [], .one (.c (.row 23 true)), fun _ => spec_siPlain.f k ⟩
def spec_siPlain.pl0 : Refl.Pn G (Refl.PT G (spec_siPlain.e 0).ol) := ⟨true, 0, ⟨[(1, .v (.c (.row 23 true))), (6, .v (.c (.row 9 false))), (7, .v (.c li)), (8, .v (.c li))], []⟩, fun k x => spec_siPlain.l0 k x.1 x.2.1 x.2.2.1 x.2.2.2⟩
theorem spec_siPlain.ok (k : Nat) : Refl.EntOK Tryz.prog (spec_siPlain.e k) := Refl.ent_ok 1000000 k GC (fun k => [spec_shParse.e k]) (fun k => ⟨spec_shParse.ok k, trivial⟩) Tryz.func160 (by kernel_rfl) [spec_siPlain.pl0] (ps := [spec_siPlain.pl0]) (by kernel_rfl) ⟨⟨fun x => by kernel_rfl, fun k x => by kernel_rfl⟩, trivial⟩ (fun x => by kernel_rfl)

/-! ### spec_orSwap: function 191 -/

def spec_orSwap.f (a0 : Int) : Option (Int) := if a0 = 2 then ((spec_orOpposite.f a0).bind fun t176 => (some t176)) else (if a0 = 3 then ((spec_orOpposite.f a0).bind fun t177 => (some t177)) else (some a0))

def spec_orSwap.e (k : Nat) : Refl.Ent G := ⟨191, [(.c li)], .one (.c li), fun x => spec_orSwap.f x⟩
theorem spec_orSwap.ok (k : Nat) : Refl.EntOK Tryz.prog (spec_orSwap.e k) := Refl.ent_ok 1000000 k GC (fun k => [spec_orOpposite.e k]) (fun k => ⟨spec_orOpposite.ok k, trivial⟩) Tryz.func191 (by kernel_rfl) [] (ps := []) (by kernel_rfl) trivial (fun x => by kernel_rfl)

/-! ### spec_orMirror: function 161 -/

def spec_orMirror.f (a0_0 : Int) (a0_1 : Int) : Option (Int × Int) := (spec_orSwap.f a0_0).bind fun t180 => ((spec_orSwap.f a0_1).bind fun t181 => (some (t180, t181)))

def spec_orMirror.e (k : Nat) : Refl.Ent G := ⟨161, [(.agg [li, li])], .one (.agg [li, li]), fun x => spec_orMirror.f x.1 x.2⟩
theorem spec_orMirror.ok (k : Nat) : Refl.EntOK Tryz.prog (spec_orMirror.e k) := Refl.ent_ok 1000000 k GC (fun k => [spec_orSwap.e k]) (fun k => ⟨spec_orSwap.ok k, trivial⟩) Tryz.func161 (by kernel_rfl) [] (ps := []) (by kernel_rfl) trivial (fun x => by kernel_rfl)

/-! ### spec_mvTimes: function 192 -/

def spec_mvTimes.l0 : Nat → ByteArray → Int → ByteArray → Option (ByteArray)
  | 0, _, _, _ => none
  | k + 1, x0, x1, x5 => if x1 > 0 then (if x5.size + x0.size ≤ 9223372036854775807 then (spec_mvTimes.l0 k x0 (wrap64 (x1 - 1)) (x5 ++ x0)) else (none)) else (some x5)

def spec_mvTimes.f (k : Nat) (a0 : ByteArray) (a1 : Int) : Option (ByteArray) := spec_mvTimes.l0 k a0 a1 (⟨#[]⟩ : ByteArray)

theorem spec_mvTimes.mono_l : ∀ k, (∀ y0 y1 y2, LeO (spec_mvTimes.l0 k y0 y1 y2) (spec_mvTimes.l0 (k + 1) y0 y1 y2))
  | 0 => fun _ _ _ r h => by simp [spec_mvTimes.l0] at h
  | k + 1 => by
    have ih0 := spec_mvTimes.mono_l k
    · intro y0 y1 y2
      unfold spec_mvTimes.l0
      repeat' first
      | (with_reducible exact ih0 _ _ _)
      | (with_reducible exact LeO.refl _)
      | (with_reducible exact LeO.none _)
      | (with_reducible refine LeO.ite ?_ ?_)
      | (with_reducible refine LeO.bind ?_ (fun _ => ?_))
      | exact ih0 _ _ _
      | exact LeO.none _
      | refine LeO.ite ?_ ?_
      | refine LeO.bind ?_ (fun _ => ?_)

theorem spec_mvTimes.mono : ∀ a0 a1 k, LeO (spec_mvTimes.f k a0 a1) (spec_mvTimes.f (k + 1) a0 a1) := by
  intro a0 a1 k
  have ih0 := spec_mvTimes.mono_l k
  unfold spec_mvTimes.f
  repeat' first
      | (with_reducible exact ih0 _ _ _)
      | (with_reducible exact LeO.refl _)
      | (with_reducible exact LeO.none _)
      | (with_reducible refine LeO.ite ?_ ?_)
      | (with_reducible refine LeO.bind ?_ (fun _ => ?_))
      | exact ih0 _ _ _
      | exact LeO.none _
      | refine LeO.ite ?_ ?_
      | refine LeO.bind ?_ (fun _ => ?_)

def spec_mvTimes.e (k : Nat) : Refl.Ent G := ⟨192, [(.c .str), (.c li)], .one (.c .str), fun x => spec_mvTimes.f k x.1 x.2⟩
def spec_mvTimes.pl0 : Refl.Pn G (Refl.PT G (spec_mvTimes.e 0).ol) := ⟨true, 0, ⟨[(0, .v (.c .str)), (1, .v (.c li)), (5, .v (.c .str))], []⟩, fun k x => spec_mvTimes.l0 k x.1 x.2.1 x.2.2⟩
theorem spec_mvTimes.ok (k : Nat) : Refl.EntOK Tryz.prog (spec_mvTimes.e k) := Refl.ent_ok 1000000 k GC (fun k => []) (fun k => trivial) Tryz.func192 (by kernel_rfl) [spec_mvTimes.pl0] (ps := [spec_mvTimes.pl0]) (by kernel_rfl) ⟨⟨fun x => by kernel_rfl, fun k x => by kernel_rfl⟩, trivial⟩ (fun x => by kernel_rfl)

/-! ### spec_mvAll: function 162 -/

def spec_mvAll.f (k : Nat) (a0_0 : ByteArray) (a0_1 : Int) : Option (ByteArray) := (spec_mvTimes.f k a0_0 a0_1).bind fun t183 => (some t183)

theorem spec_mvAll.mono : ∀ a0 a1 k, LeO (spec_mvAll.f k a0 a1) (spec_mvAll.f (k + 1) a0 a1) := by
  intro a0 a1 k
  unfold spec_mvAll.f
  repeat' first
      | (with_reducible exact spec_mvTimes.mono _ _ _)
      | (with_reducible exact LeO.refl _)
      | (with_reducible exact LeO.none _)
      | (with_reducible refine LeO.ite ?_ ?_)
      | (with_reducible refine LeO.bind ?_ (fun _ => ?_))
      | exact spec_mvTimes.mono _ _ _
      | exact LeO.none _
      | refine LeO.ite ?_ ?_
      | refine LeO.bind ?_ (fun _ => ?_)

def spec_mvAll.e (k : Nat) : Refl.Ent G := ⟨162, [(.agg [.str, li])], .one (.c .str), fun x => spec_mvAll.f k x.1 x.2⟩
theorem spec_mvAll.ok (k : Nat) : Refl.EntOK Tryz.prog (spec_mvAll.e k) := Refl.ent_ok 1000000 k GC (fun k => [spec_mvTimes.e k]) (fun k => ⟨spec_mvTimes.ok k, trivial⟩) Tryz.func162 (by kernel_rfl) [] (ps := []) (by kernel_rfl) trivial (fun x => by kernel_rfl)

/-! ### spec_mvMirror: function 163 -/

def spec_mvMirror.l0 : Nat → ByteArray → Int → ByteArray → Int → Option (ByteArray × Int)
  | 0, _, _, _, _ => none
  | k + 1, x3, x4, x185000, x185001 => if x4 < (x185000.size : Int) then (if 0 ≤ x4 then (if x4 < (x185000.size : Int) then (if (bt x185000 x4) = 108 then (if x3.size + 1 ≤ 9223372036854775807 then (spec_mvMirror.l0 k (x3 ++ (⟨#[114]⟩ : ByteArray)) (wrap64 (x4 + 1)) x185000 x185001) else (none)) else (if (bt x185000 x4) = 114 then (if x3.size + 1 ≤ 9223372036854775807 then (spec_mvMirror.l0 k (x3 ++ (⟨#[108]⟩ : ByteArray)) (wrap64 (x4 + 1)) x185000 x185001) else (none)) else (if 0 ≤ x4 then (if x4 ≤ (wrap64 (x4 + 1)) then (if (wrap64 (x4 + 1)) ≤ (x185000.size : Int) then (if x3.size + (x185000.extract (x4 : Int).toNat ((wrap64 (x4 + 1)) : Int).toNat).size ≤ 9223372036854775807 then (spec_mvMirror.l0 k (x3 ++ (x185000.extract (x4 : Int).toNat ((wrap64 (x4 + 1)) : Int).toNat)) (wrap64 (x4 + 1)) x185000 x185001) else (none)) else (none)) else (none)) else (none)))) else (none)) else (none)) else (some (x3, x185001))

def spec_mvMirror.f (k : Nat) (a0_0 : ByteArray) (a0_1 : Int) : Option (ByteArray × Int) := spec_mvMirror.l0 k (⟨#[]⟩ : ByteArray) 0 a0_0 a0_1

theorem spec_mvMirror.mono_l : ∀ k, (∀ y0 y1 y2 y3, LeO (spec_mvMirror.l0 k y0 y1 y2 y3) (spec_mvMirror.l0 (k + 1) y0 y1 y2 y3))
  | 0 => fun _ _ _ _ r h => by simp [spec_mvMirror.l0] at h
  | k + 1 => by
    have ih0 := spec_mvMirror.mono_l k
    · intro y0 y1 y2 y3
      unfold spec_mvMirror.l0
      repeat' first
      | (with_reducible exact ih0 _ _ _ _)
      | (with_reducible exact LeO.refl _)
      | (with_reducible exact LeO.none _)
      | (with_reducible refine LeO.ite ?_ ?_)
      | (with_reducible refine LeO.bind ?_ (fun _ => ?_))
      | exact ih0 _ _ _ _
      | exact LeO.none _
      | refine LeO.ite ?_ ?_
      | refine LeO.bind ?_ (fun _ => ?_)

theorem spec_mvMirror.mono : ∀ a0 a1 k, LeO (spec_mvMirror.f k a0 a1) (spec_mvMirror.f (k + 1) a0 a1) := by
  intro a0 a1 k
  have ih0 := spec_mvMirror.mono_l k
  unfold spec_mvMirror.f
  repeat' first
      | (with_reducible exact ih0 _ _ _ _)
      | (with_reducible exact LeO.refl _)
      | (with_reducible exact LeO.none _)
      | (with_reducible refine LeO.ite ?_ ?_)
      | (with_reducible refine LeO.bind ?_ (fun _ => ?_))
      | exact ih0 _ _ _ _
      | exact LeO.none _
      | refine LeO.ite ?_ ?_
      | refine LeO.bind ?_ (fun _ => ?_)

def spec_mvMirror.e (k : Nat) : Refl.Ent G := ⟨163, [(.agg [.str, li])], .one (.agg [.str, li]), fun x => spec_mvMirror.f k x.1 x.2⟩
def spec_mvMirror.pl0 : Refl.Pn G (Refl.PT G (spec_mvMirror.e 0).ol) := ⟨true, 0, ⟨[(3, .v (.c .str)), (4, .v (.c li)), (1, .box 1 0), (2, .box 2 0)], [(1, 29, gL3), (2, 29, gL4)]⟩, fun k x => spec_mvMirror.l0 k x.1 x.2.1 x.2.2.1 x.2.2.2⟩
theorem spec_mvMirror.ok (k : Nat) : Refl.EntOK Tryz.prog (spec_mvMirror.e k) := Refl.ent_ok 1000000 k GC (fun k => []) (fun k => trivial) Tryz.func163 (by kernel_rfl) [spec_mvMirror.pl0] (ps := [spec_mvMirror.pl0]) (by kernel_rfl) ⟨⟨fun x => by kernel_rfl, fun k x => by kernel_rfl⟩, trivial⟩ (fun x => by kernel_rfl)

/-! ### spec_siBroken: function 119 -/

mutual
def spec_siBroken.l0 : Nat → List (S23) → Int → Int → Int → Int → Int → Int → Int → Bool → Int → Int → Int → Int → Bool → ByteArray → Int → Option (Int)
  | 0, _, _, _, _, _, _, _, _, _, _, _, _, _, _, _, _ => none
  | k + 1, x16, x17, x18, x188000, x188001, x188002, x188003, x188004, x188005, x188006, x188007, x188008, x188009, x188010, x188011, x188012 => if x18 < x17 then (if 0 ≤ x18 then (if x18 < (x16.length : Int) then (if (((rd_T23 x16 x18).f0) == x188000 && (((rd_T23 x16 x18).f1) == x188001 && (((rd_T23 x16 x18).f2) == x188002 && (((rd_T23 x16 x18).f3) == x188003 && (((rd_T23 x16 x18).f4) == x188004 && (((rd_T23 x16 x18).f5) == x188005)))))) = true then (some 0) else (spec_siBroken.l0 k x16 x17 (wrap64 (x18 + 1)) x188000 x188001 x188002 x188003 x188004 x188005 x188006 x188007 x188008 x188009 x188010 x188011 x188012)) else (none)) else (none)) else (some 4)
def spec_siBroken.j1 : Nat → Bool → Int → Int → Int → Int → Int → Bool → Int → Int → Int → Int → Bool → ByteArray → Int → Int → Int → Int → Int → Int → Bool → Int → Int → Int → Int → Bool → ByteArray → Int → Option (Int)
  | 0, _, _, _, _, _, _, _, _, _, _, _, _, _, _, _, _, _, _, _, _, _, _, _, _, _, _, _ => none
  | k + 1, x38, x187000, x187001, x187002, x187003, x187004, x187005, x187006, x187007, x187008, x187009, x187010, x187011, x187012, x188000, x188001, x188002, x188003, x188004, x188005, x188006, x188007, x188008, x188009, x188010, x188011, x188012 => if x38 = true then (some 2) else ((spec_mvAll.f k x187011 x187012).bind fun t195 => ((spec_mvAll.f k x188011 x188012).bind fun t196 => (if t195.toList = t196.toList then (some 0) else ((spec_mvMirror.f k x187011 x187012).bind fun bt197 => ((spec_mvAll.f k bt197.1 bt197.2).bind fun t199 => ((spec_mvAll.f k x188011 x188012).bind fun t200 => (if t199.toList = t200.toList then (some 0) else (some 3))))))))
end

def spec_siBroken.f (k : Nat) (a0_0 : Int) (a0_1 : Int) (a0_2 : Int) (a0_3 : Int) (a0_4 : Int) (a0_5 : Bool) (a0_6 : Int) (a0_7 : Int) (a0_8 : Int) (a0_9 : Int) (a0_10 : Bool) (a0_11 : ByteArray) (a0_12 : Int) (a1_0 : Int) (a1_1 : Int) (a1_2 : Int) (a1_3 : Int) (a1_4 : Int) (a1_5 : Bool) (a1_6 : Int) (a1_7 : Int) (a1_8 : Int) (a1_9 : Int) (a1_10 : Bool) (a1_11 : ByteArray) (a1_12 : Int) : Option (Int) := if a1_11.toList = ([] : List UInt8) then (if (a0_0 == a1_0 && (a0_1 == a1_1 && (a0_2 == a1_2 && (a0_3 == a1_3 && (a0_4 == a1_4 && (a0_5 == a1_5)))))) = true then (some 0) else ((spec_siPlain.f k).bind fun t188 => (spec_siBroken.l0 k t188 (t188.length : Int) 0 a1_0 a1_1 a1_2 a1_3 a1_4 a1_5 a1_6 a1_7 a1_8 a1_9 a1_10 a1_11 a1_12))) else (if a0_11.toList = ([] : List UInt8) then (some 3) else (if ((a0_0 == a1_0 && (a0_1 == a1_1 && (a0_2 == a1_2 && (a0_3 == a1_3 && (a0_4 == a1_4 && (a0_5 == a1_5)))))) = true) then (if ((a0_6 == a1_6 && (a0_7 == a1_7)) = true) then (spec_siBroken.j1 k false a0_0 a0_1 a0_2 a0_3 a0_4 a0_5 a0_6 a0_7 a0_8 a0_9 a0_10 a0_11 a0_12 a1_0 a1_1 a1_2 a1_3 a1_4 a1_5 a1_6 a1_7 a1_8 a1_9 a1_10 a1_11 a1_12) else ((spec_orMirror.f a1_6 a1_7).bind fun bt193 => (spec_siBroken.j1 k (!(a0_6 == bt193.1 && (a0_7 == bt193.2))) a0_0 a0_1 a0_2 a0_3 a0_4 a0_5 a0_6 a0_7 a0_8 a0_9 a0_10 a0_11 a0_12 a1_0 a1_1 a1_2 a1_3 a1_4 a1_5 a1_6 a1_7 a1_8 a1_9 a1_10 a1_11 a1_12))) else (some 1)))

theorem spec_siBroken.mono_l : ∀ k, (∀ y0 y1 y2 y3 y4 y5 y6 y7 y8 y9 y10 y11 y12 y13 y14 y15, LeO (spec_siBroken.l0 k y0 y1 y2 y3 y4 y5 y6 y7 y8 y9 y10 y11 y12 y13 y14 y15) (spec_siBroken.l0 (k + 1) y0 y1 y2 y3 y4 y5 y6 y7 y8 y9 y10 y11 y12 y13 y14 y15)) ∧ (∀ y0 y1 y2 y3 y4 y5 y6 y7 y8 y9 y10 y11 y12 y13 y14 y15 y16 y17 y18 y19 y20 y21 y22 y23 y24 y25 y26, LeO (spec_siBroken.j1 k y0 y1 y2 y3 y4 y5 y6 y7 y8 y9 y10 y11 y12 y13 y14 y15 y16 y17 y18 y19 y20 y21 y22 y23 y24 y25 y26) (spec_siBroken.j1 (k + 1) y0 y1 y2 y3 y4 y5 y6 y7 y8 y9 y10 y11 y12 y13 y14 y15 y16 y17 y18 y19 y20 y21 y22 y23 y24 y25 y26))
  | 0 => ⟨fun _ _ _ _ _ _ _ _ _ _ _ _ _ _ _ _ r h => by simp [spec_siBroken.l0] at h, fun _ _ _ _ _ _ _ _ _ _ _ _ _ _ _ _ _ _ _ _ _ _ _ _ _ _ _ r h => by simp [spec_siBroken.j1] at h⟩
  | k + 1 => by
    obtain ⟨ih0, ih1⟩ := spec_siBroken.mono_l k
    refine ⟨?_, ?_⟩
    · intro y0 y1 y2 y3 y4 y5 y6 y7 y8 y9 y10 y11 y12 y13 y14 y15
      unfold spec_siBroken.l0
      repeat' first
      | (with_reducible exact ih0 _ _ _ _ _ _ _ _ _ _ _ _ _ _ _ _)
      | (with_reducible exact ih1 _ _ _ _ _ _ _ _ _ _ _ _ _ _ _ _ _ _ _ _ _ _ _ _ _ _ _)
      | (with_reducible exact spec_mvAll.mono _ _ _)
      | (with_reducible exact spec_mvMirror.mono _ _ _)
      | (with_reducible exact spec_siPlain.mono _)
      | (with_reducible exact LeO.refl _)
      | (with_reducible exact LeO.none _)
      | (with_reducible refine LeO.ite ?_ ?_)
      | (with_reducible refine LeO.bind ?_ (fun _ => ?_))
      | exact ih0 _ _ _ _ _ _ _ _ _ _ _ _ _ _ _ _
      | exact ih1 _ _ _ _ _ _ _ _ _ _ _ _ _ _ _ _ _ _ _ _ _ _ _ _ _ _ _
      | exact spec_mvAll.mono _ _ _
      | exact spec_mvMirror.mono _ _ _
      | exact spec_siPlain.mono _
      | exact LeO.none _
      | refine LeO.ite ?_ ?_
      | refine LeO.bind ?_ (fun _ => ?_)
    · intro y0 y1 y2 y3 y4 y5 y6 y7 y8 y9 y10 y11 y12 y13 y14 y15 y16 y17 y18 y19 y20 y21 y22 y23 y24 y25 y26
      unfold spec_siBroken.j1
      repeat' first
      | (with_reducible exact ih0 _ _ _ _ _ _ _ _ _ _ _ _ _ _ _ _)
      | (with_reducible exact ih1 _ _ _ _ _ _ _ _ _ _ _ _ _ _ _ _ _ _ _ _ _ _ _ _ _ _ _)
      | (with_reducible exact spec_mvAll.mono _ _ _)
      | (with_reducible exact spec_mvMirror.mono _ _ _)
      | (with_reducible exact spec_siPlain.mono _)
      | (with_reducible exact LeO.refl _)
      | (with_reducible exact LeO.none _)
      | (with_reducible refine LeO.ite ?_ ?_)
      | (with_reducible refine LeO.bind ?_ (fun _ => ?_))
      | exact ih0 _ _ _ _ _ _ _ _ _ _ _ _ _ _ _ _
      | exact ih1 _ _ _ _ _ _ _ _ _ _ _ _ _ _ _ _ _ _ _ _ _ _ _ _ _ _ _
      | exact spec_mvAll.mono _ _ _
      | exact spec_mvMirror.mono _ _ _
      | exact spec_siPlain.mono _
      | exact LeO.none _
      | refine LeO.ite ?_ ?_
      | refine LeO.bind ?_ (fun _ => ?_)

theorem spec_siBroken.mono : ∀ a0 a1 a2 a3 a4 a5 a6 a7 a8 a9 a10 a11 a12 a13 a14 a15 a16 a17 a18 a19 a20 a21 a22 a23 a24 a25 k, LeO (spec_siBroken.f k a0 a1 a2 a3 a4 a5 a6 a7 a8 a9 a10 a11 a12 a13 a14 a15 a16 a17 a18 a19 a20 a21 a22 a23 a24 a25) (spec_siBroken.f (k + 1) a0 a1 a2 a3 a4 a5 a6 a7 a8 a9 a10 a11 a12 a13 a14 a15 a16 a17 a18 a19 a20 a21 a22 a23 a24 a25) := by
  intro a0 a1 a2 a3 a4 a5 a6 a7 a8 a9 a10 a11 a12 a13 a14 a15 a16 a17 a18 a19 a20 a21 a22 a23 a24 a25 k
  obtain ⟨ih0, ih1⟩ := spec_siBroken.mono_l k
  unfold spec_siBroken.f
  repeat' first
      | (with_reducible exact ih0 _ _ _ _ _ _ _ _ _ _ _ _ _ _ _ _)
      | (with_reducible exact ih1 _ _ _ _ _ _ _ _ _ _ _ _ _ _ _ _ _ _ _ _ _ _ _ _ _ _ _)
      | (with_reducible exact spec_mvAll.mono _ _ _)
      | (with_reducible exact spec_mvMirror.mono _ _ _)
      | (with_reducible exact spec_siPlain.mono _)
      | (with_reducible exact LeO.refl _)
      | (with_reducible exact LeO.none _)
      | (with_reducible refine LeO.ite ?_ ?_)
      | (with_reducible refine LeO.bind ?_ (fun _ => ?_))
      | exact ih0 _ _ _ _ _ _ _ _ _ _ _ _ _ _ _ _
      | exact ih1 _ _ _ _ _ _ _ _ _ _ _ _ _ _ _ _ _ _ _ _ _ _ _ _ _ _ _
      | exact spec_mvAll.mono _ _ _
      | exact spec_mvMirror.mono _ _ _
      | exact spec_siPlain.mono _
      | exact LeO.none _
      | refine LeO.ite ?_ ?_
      | refine LeO.bind ?_ (fun _ => ?_)

def spec_siBroken.e (k : Nat) : Refl.Ent G := ⟨119, [(.agg gL0), (.agg gL0)], .one (.c li), fun x => spec_siBroken.f k x.1 x.2.1 x.2.2.1 x.2.2.2.1 x.2.2.2.2.1 x.2.2.2.2.2.1 x.2.2.2.2.2.2.1 x.2.2.2.2.2.2.2.1 x.2.2.2.2.2.2.2.2.1 x.2.2.2.2.2.2.2.2.2.1 x.2.2.2.2.2.2.2.2.2.2.1 x.2.2.2.2.2.2.2.2.2.2.2.1 x.2.2.2.2.2.2.2.2.2.2.2.2.1 x.2.2.2.2.2.2.2.2.2.2.2.2.2.1 x.2.2.2.2.2.2.2.2.2.2.2.2.2.2.1 x.2.2.2.2.2.2.2.2.2.2.2.2.2.2.2.1 x.2.2.2.2.2.2.2.2.2.2.2.2.2.2.2.2.1 x.2.2.2.2.2.2.2.2.2.2.2.2.2.2.2.2.2.1 x.2.2.2.2.2.2.2.2.2.2.2.2.2.2.2.2.2.2.1 x.2.2.2.2.2.2.2.2.2.2.2.2.2.2.2.2.2.2.2.1 x.2.2.2.2.2.2.2.2.2.2.2.2.2.2.2.2.2.2.2.2.1 x.2.2.2.2.2.2.2.2.2.2.2.2.2.2.2.2.2.2.2.2.2.1 x.2.2.2.2.2.2.2.2.2.2.2.2.2.2.2.2.2.2.2.2.2.2.1 x.2.2.2.2.2.2.2.2.2.2.2.2.2.2.2.2.2.2.2.2.2.2.2.1 x.2.2.2.2.2.2.2.2.2.2.2.2.2.2.2.2.2.2.2.2.2.2.2.2.1 x.2.2.2.2.2.2.2.2.2.2.2.2.2.2.2.2.2.2.2.2.2.2.2.2.2⟩
def spec_siBroken.pl0 : Refl.Pn G (Refl.PT G (spec_siBroken.e 0).ol) := ⟨true, 0, ⟨[(16, .v (.c (.row 23 false))), (17, .v (.c li)), (18, .v (.c li)), (3, .box 3 0), (4, .k (Value.int IntKind.i64 0))], [(3, 31, gL5)]⟩, fun k x => spec_siBroken.l0 k x.1 x.2.1 x.2.2.1 x.2.2.2.1 x.2.2.2.2.1 x.2.2.2.2.2.1 x.2.2.2.2.2.2.1 x.2.2.2.2.2.2.2.1 x.2.2.2.2.2.2.2.2.1 x.2.2.2.2.2.2.2.2.2.1 x.2.2.2.2.2.2.2.2.2.2.1 x.2.2.2.2.2.2.2.2.2.2.2.1 x.2.2.2.2.2.2.2.2.2.2.2.2.1 x.2.2.2.2.2.2.2.2.2.2.2.2.2.1 x.2.2.2.2.2.2.2.2.2.2.2.2.2.2.1 x.2.2.2.2.2.2.2.2.2.2.2.2.2.2.2⟩
def spec_siBroken.pj1 : Refl.Pn G (Refl.PT G (spec_siBroken.e 0).ol) := ⟨false, 1000015, ⟨[(38, .v (.c .bool)), (2, .box 2 0), (3, .box 3 0), (4, .k (Value.int IntKind.i64 0))], [(2, 31, gL5), (3, 31, gL5)]⟩, fun k x => spec_siBroken.j1 k x.1 x.2.1 x.2.2.1 x.2.2.2.1 x.2.2.2.2.1 x.2.2.2.2.2.1 x.2.2.2.2.2.2.1 x.2.2.2.2.2.2.2.1 x.2.2.2.2.2.2.2.2.1 x.2.2.2.2.2.2.2.2.2.1 x.2.2.2.2.2.2.2.2.2.2.1 x.2.2.2.2.2.2.2.2.2.2.2.1 x.2.2.2.2.2.2.2.2.2.2.2.2.1 x.2.2.2.2.2.2.2.2.2.2.2.2.2.1 x.2.2.2.2.2.2.2.2.2.2.2.2.2.2.1 x.2.2.2.2.2.2.2.2.2.2.2.2.2.2.2.1 x.2.2.2.2.2.2.2.2.2.2.2.2.2.2.2.2.1 x.2.2.2.2.2.2.2.2.2.2.2.2.2.2.2.2.2.1 x.2.2.2.2.2.2.2.2.2.2.2.2.2.2.2.2.2.2.1 x.2.2.2.2.2.2.2.2.2.2.2.2.2.2.2.2.2.2.2.1 x.2.2.2.2.2.2.2.2.2.2.2.2.2.2.2.2.2.2.2.2.1 x.2.2.2.2.2.2.2.2.2.2.2.2.2.2.2.2.2.2.2.2.2.1 x.2.2.2.2.2.2.2.2.2.2.2.2.2.2.2.2.2.2.2.2.2.2.1 x.2.2.2.2.2.2.2.2.2.2.2.2.2.2.2.2.2.2.2.2.2.2.2.1 x.2.2.2.2.2.2.2.2.2.2.2.2.2.2.2.2.2.2.2.2.2.2.2.2.1 x.2.2.2.2.2.2.2.2.2.2.2.2.2.2.2.2.2.2.2.2.2.2.2.2.2.1 x.2.2.2.2.2.2.2.2.2.2.2.2.2.2.2.2.2.2.2.2.2.2.2.2.2.2⟩
theorem spec_siBroken.ok (k : Nat) : Refl.EntOK Tryz.prog (spec_siBroken.e k) := Refl.ent_ok 1000000 k GC (fun k => [spec_siPlain.e k, spec_orMirror.e k, spec_mvAll.e k, spec_mvMirror.e k]) (fun k => ⟨spec_siPlain.ok k, spec_orMirror.ok k, spec_mvAll.ok k, spec_mvMirror.ok k, trivial⟩) Tryz.func119 (by kernel_rfl) [spec_siBroken.pl0, spec_siBroken.pj1] (ps := [spec_siBroken.pl0, spec_siBroken.pj1]) (by kernel_rfl) ⟨⟨fun x => by kernel_rfl, fun k x => by kernel_rfl⟩, ⟨fun x => by kernel_rfl, fun k x => by kernel_rfl⟩, trivial⟩ (fun x => by kernel_rfl)

/-! ### spec_siGood: function 69 -/

def spec_siGood.f (k : Nat) (a0_0 : Int) (a0_1 : Int) (a0_2 : Int) (a0_3 : Int) (a0_4 : Int) (a0_5 : Bool) (a0_6 : Int) (a0_7 : Int) (a0_8 : Int) (a0_9 : Int) (a0_10 : Bool) (a0_11 : ByteArray) (a0_12 : Int) (a0_13 : Bool) (a0_14 : Int) (a0_15 : Int) (a0_16 : Int) (a0_17 : Int) (a0_18 : Int) (a0_19 : Bool) (a0_20 : Int) (a0_21 : Int) (a0_22 : Int) (a0_23 : Int) (a0_24 : Bool) (a0_25 : ByteArray) (a0_26 : Int) : Option (Bool) := (spec_siHand.f k a0_0 a0_1 a0_2 a0_3 a0_4 a0_5 a0_6 a0_7 a0_8 a0_9 a0_10 a0_11 a0_12).bind fun t202 => (if t202 = true then (if a0_13 = true then ((spec_siHand.f k a0_14 a0_15 a0_16 a0_17 a0_18 a0_19 a0_20 a0_21 a0_22 a0_23 a0_24 a0_25 a0_26).bind fun t203 => (if t203 = true then ((spec_siBroken.f k a0_0 a0_1 a0_2 a0_3 a0_4 a0_5 a0_6 a0_7 a0_8 a0_9 a0_10 a0_11 a0_12 a0_14 a0_15 a0_16 a0_17 a0_18 a0_19 a0_20 a0_21 a0_22 a0_23 a0_24 a0_25 a0_26).bind fun t204 => (some (t204 == 0))) else (some false))) else (some ((a0_14 == 0 && (a0_15 == 0 && (a0_16 == 0 && (a0_17 == 0 && (a0_18 == 0 && (a0_19 == false)))))) && ((a0_20 == 0 && (a0_21 == 0)) && ((a0_22 == 0 && (a0_23 == 0 && (a0_24 == false))) && ((a0_25.toList == ((⟨#[]⟩ : ByteArray).toList) && (a0_26 == 0)))))))) else (some false))

theorem spec_siGood.mono : ∀ a0 a1 a2 a3 a4 a5 a6 a7 a8 a9 a10 a11 a12 a13 a14 a15 a16 a17 a18 a19 a20 a21 a22 a23 a24 a25 a26 k, LeO (spec_siGood.f k a0 a1 a2 a3 a4 a5 a6 a7 a8 a9 a10 a11 a12 a13 a14 a15 a16 a17 a18 a19 a20 a21 a22 a23 a24 a25 a26) (spec_siGood.f (k + 1) a0 a1 a2 a3 a4 a5 a6 a7 a8 a9 a10 a11 a12 a13 a14 a15 a16 a17 a18 a19 a20 a21 a22 a23 a24 a25 a26) := by
  intro a0 a1 a2 a3 a4 a5 a6 a7 a8 a9 a10 a11 a12 a13 a14 a15 a16 a17 a18 a19 a20 a21 a22 a23 a24 a25 a26 k
  unfold spec_siGood.f
  repeat' first
      | (with_reducible exact spec_siBroken.mono _ _ _ _ _ _ _ _ _ _ _ _ _ _ _ _ _ _ _ _ _ _ _ _ _ _ _)
      | (with_reducible exact spec_siHand.mono _ _ _ _ _ _ _ _ _ _ _ _ _ _)
      | (with_reducible exact LeO.refl _)
      | (with_reducible exact LeO.none _)
      | (with_reducible refine LeO.ite ?_ ?_)
      | (with_reducible refine LeO.bind ?_ (fun _ => ?_))
      | exact spec_siBroken.mono _ _ _ _ _ _ _ _ _ _ _ _ _ _ _ _ _ _ _ _ _ _ _ _ _ _ _
      | exact spec_siHand.mono _ _ _ _ _ _ _ _ _ _ _ _ _ _
      | exact LeO.none _
      | refine LeO.ite ?_ ?_
      | refine LeO.bind ?_ (fun _ => ?_)

def spec_siGood.e (k : Nat) : Refl.Ent G := ⟨69, [(.agg gL1)], .one (.c .bool), fun x => spec_siGood.f k x.1 x.2.1 x.2.2.1 x.2.2.2.1 x.2.2.2.2.1 x.2.2.2.2.2.1 x.2.2.2.2.2.2.1 x.2.2.2.2.2.2.2.1 x.2.2.2.2.2.2.2.2.1 x.2.2.2.2.2.2.2.2.2.1 x.2.2.2.2.2.2.2.2.2.2.1 x.2.2.2.2.2.2.2.2.2.2.2.1 x.2.2.2.2.2.2.2.2.2.2.2.2.1 x.2.2.2.2.2.2.2.2.2.2.2.2.2.1 x.2.2.2.2.2.2.2.2.2.2.2.2.2.2.1 x.2.2.2.2.2.2.2.2.2.2.2.2.2.2.2.1 x.2.2.2.2.2.2.2.2.2.2.2.2.2.2.2.2.1 x.2.2.2.2.2.2.2.2.2.2.2.2.2.2.2.2.2.1 x.2.2.2.2.2.2.2.2.2.2.2.2.2.2.2.2.2.2.1 x.2.2.2.2.2.2.2.2.2.2.2.2.2.2.2.2.2.2.2.1 x.2.2.2.2.2.2.2.2.2.2.2.2.2.2.2.2.2.2.2.2.1 x.2.2.2.2.2.2.2.2.2.2.2.2.2.2.2.2.2.2.2.2.2.1 x.2.2.2.2.2.2.2.2.2.2.2.2.2.2.2.2.2.2.2.2.2.2.1 x.2.2.2.2.2.2.2.2.2.2.2.2.2.2.2.2.2.2.2.2.2.2.2.1 x.2.2.2.2.2.2.2.2.2.2.2.2.2.2.2.2.2.2.2.2.2.2.2.2.1 x.2.2.2.2.2.2.2.2.2.2.2.2.2.2.2.2.2.2.2.2.2.2.2.2.2.1 x.2.2.2.2.2.2.2.2.2.2.2.2.2.2.2.2.2.2.2.2.2.2.2.2.2.2⟩
theorem spec_siGood.ok (k : Nat) : Refl.EntOK Tryz.prog (spec_siGood.e k) := Refl.ent_ok 1000000 k GC (fun k => [spec_siHand.e k, spec_siBroken.e k]) (fun k => ⟨spec_siHand.ok k, spec_siBroken.ok k, trivial⟩) Tryz.func69 (by kernel_rfl) [] (ps := []) (by kernel_rfl) trivial (fun x => by kernel_rfl)

/-! ### spec_ruMost: function 164 -/

def spec_ruMost.f (a0 : Int) : Option (Int) := (some (([18, 9, 4, 3, 9] : List Int) : List Int)).bind fun y205 => (if 0 ≤ a0 then (if a0 < (y205.length : Int) then (some (rd y205 a0)) else (none)) else (none))

def spec_ruMost.e (k : Nat) : Refl.Ent G := ⟨164, [(.c li)], .one (.c li), fun x => spec_ruMost.f x⟩
theorem spec_ruMost.ok (k : Nat) : Refl.EntOK Tryz.prog (spec_ruMost.e k) := Refl.ent_ok 1000000 k GC (fun k => []) (fun k => trivial) Tryz.func164 (by kernel_rfl) [] (ps := []) (by kernel_rfl) trivial (fun x => by kernel_rfl)

end Go.Proofs.YtcicpmhcmlfhbaaGreatDoor.PA
