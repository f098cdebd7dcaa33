-- Written by a program of this session (wip/tools/myprint.py). Not trusted: Lean checks it.
import Derived.Test.YtojfncpjgpklhaaGreatDoorCtx
import Derived.Test.YtojfncpjgpklhaaGreatDoorPAx4
import Derived.Test.YtojfncpjgpklhaaGreatDoorPAx7
import Derived.Test.YtojfncpjgpklhaaGreatDoorPAx8
namespace Go.Proofs.YtojfncpjgpklhaaGreatDoor.PA
open Go.RowKit Go.Proofs.YtojfncpjgpklhaaGreatDoorW.PrintWords Go.Proofs.YtojfncpjgpklhaaGreatDoorW.PrintLast Go.Proofs.YtojfncpjgpklhaaGreatDoorW.PrintMore
attribute [local go_sem] max2_int min2_int max_two min_two max_three min_three max_four min_four   -- for this text's walks alone
set_option linter.unusedVariables false
set_option linter.unusedSimpArgs false

/-! ### impl_Sign_reduced: function 80 -/

def impl_Sign_reduced.f (k : Nat) (a0_0 : Int) (a0_1 : Int) (a0_2 : Int) (a0_3 : Int) (a0_4 : Int) (a0_5 : Bool) (a0_6 : Int) (a0_7 : Int) (a0_8 : Int) (a0_9 : Int) (a0_10 : Bool) (a0_11 : ByteArray) (a0_12 : Int) (a0_13 : Bool) (a0_14 : Int) (a0_15 : Int) (a0_16 : Int) (a0_17 : Int) (a0_18 : Int) (a0_19 : Bool) (a0_20 : Int) (a0_21 : Int) (a0_22 : Int) (a0_23 : Int) (a0_24 : Bool) (a0_25 : ByteArray) (a0_26 : Int) : Option (Int × Int × Int × Int × Int × Bool × Int × Int × Int × Int × Bool × ByteArray × Int × Bool × Int × Int × Int × Int × Int × Bool × Int × Int × Int × Int × Bool × ByteArray × Int) := (impl_Move_reduced.f k a0_11 a0_12).bind fun bt427 => (if a0_13 = true then ((impl_Move_reduced.f k a0_25 a0_26).bind fun bt429 => (some (a0_0, a0_1, a0_2, a0_3, a0_4, a0_5, a0_6, a0_7, a0_8, a0_9, a0_10, bt427.1, bt427.2, a0_13, a0_14, a0_15, a0_16, a0_17, a0_18, a0_19, a0_20, a0_21, a0_22, a0_23, a0_24, bt429.1, bt429.2))) else (some (a0_0, a0_1, a0_2, a0_3, a0_4, a0_5, a0_6, a0_7, a0_8, a0_9, a0_10, bt427.1, bt427.2, a0_13, a0_14, a0_15, a0_16, a0_17, a0_18, a0_19, a0_20, a0_21, a0_22, a0_23, a0_24, a0_25, a0_26)))

theorem impl_Sign_reduced.mono : ∀ a0 a1 a2 a3 a4 a5 a6 a7 a8 a9 a10 a11 a12 a13 a14 a15 a16 a17 a18 a19 a20 a21 a22 a23 a24 a25 a26 k, LeO (impl_Sign_reduced.f k a0 a1 a2 a3 a4 a5 a6 a7 a8 a9 a10 a11 a12 a13 a14 a15 a16 a17 a18 a19 a20 a21 a22 a23 a24 a25 a26) (impl_Sign_reduced.f (k + 1) a0 a1 a2 a3 a4 a5 a6 a7 a8 a9 a10 a11 a12 a13 a14 a15 a16 a17 a18 a19 a20 a21 a22 a23 a24 a25 a26) := by
  intro a0 a1 a2 a3 a4 a5 a6 a7 a8 a9 a10 a11 a12 a13 a14 a15 a16 a17 a18 a19 a20 a21 a22 a23 a24 a25 a26 k
  unfold impl_Sign_reduced.f
  repeat' first
      | (with_reducible exact impl_Move_reduced.mono _ _ _)
      | (with_reducible exact LeO.refl _)
      | (with_reducible exact LeO.none _)
      | (with_reducible refine LeO.ite ?_ ?_)
      | (with_reducible refine LeO.bind ?_ (fun _ => ?_))
      | exact impl_Move_reduced.mono _ _ _
      | exact LeO.none _
      | refine LeO.ite ?_ ?_
      | refine LeO.bind ?_ (fun _ => ?_)

def impl_Sign_reduced.e (k : Nat) : Refl.Ent G := ⟨80, [(.agg gL1)], .one (.agg gL1), fun x => impl_Sign_reduced.f k x.1 x.2.1 x.2.2.1 x.2.2.2.1 x.2.2.2.2.1 x.2.2.2.2.2.1 x.2.2.2.2.2.2.1 x.2.2.2.2.2.2.2.1 x.2.2.2.2.2.2.2.2.1 x.2.2.2.2.2.2.2.2.2.1 x.2.2.2.2.2.2.2.2.2.2.1 x.2.2.2.2.2.2.2.2.2.2.2.1 x.2.2.2.2.2.2.2.2.2.2.2.2.1 x.2.2.2.2.2.2.2.2.2.2.2.2.2.1 x.2.2.2.2.2.2.2.2.2.2.2.2.2.2.1 x.2.2.2.2.2.2.2.2.2.2.2.2.2.2.2.1 x.2.2.2.2.2.2.2.2.2.2.2.2.2.2.2.2.1 x.2.2.2.2.2.2.2.2.2.2.2.2.2.2.2.2.2.1 x.2.2.2.2.2.2.2.2.2.2.2.2.2.2.2.2.2.2.1 x.2.2.2.2.2.2.2.2.2.2.2.2.2.2.2.2.2.2.2.1 x.2.2.2.2.2.2.2.2.2.2.2.2.2.2.2.2.2.2.2.2.1 x.2.2.2.2.2.2.2.2.2.2.2.2.2.2.2.2.2.2.2.2.2.1 x.2.2.2.2.2.2.2.2.2.2.2.2.2.2.2.2.2.2.2.2.2.2.1 x.2.2.2.2.2.2.2.2.2.2.2.2.2.2.2.2.2.2.2.2.2.2.2.1 x.2.2.2.2.2.2.2.2.2.2.2.2.2.2.2.2.2.2.2.2.2.2.2.2.1 x.2.2.2.2.2.2.2.2.2.2.2.2.2.2.2.2.2.2.2.2.2.2.2.2.2.1 x.2.2.2.2.2.2.2.2.2.2.2.2.2.2.2.2.2.2.2.2.2.2.2.2.2.2⟩
theorem impl_Sign_reduced.ok (k : Nat) : Refl.EntOK Tryz.prog (impl_Sign_reduced.e k) := Refl.ent_ok 1000000 k GC (fun k => [impl_Move_reduced.e k]) (fun k => ⟨impl_Move_reduced.ok k, trivial⟩) Tryz.func80 (by kernel_rfl) [] (ps := []) (by kernel_rfl) trivial (fun x => by kernel_rfl)

/-! ### impl_compound: function 44 -/

def impl_compound.l0 : Nat → List (S44) → Int → Int → Option ((List (S44)))
  | 0, _, _, _ => none
  | k + 1, x3, x9, x10 => if x10 < x9 then (if 0 ≤ x10 then (if x10 < (x3.length : Int) then ((impl_Sign_reduced.f k ((rd_T44 x3 x10).f0.f0.f0) ((rd_T44 x3 x10).f0.f0.f1) ((rd_T44 x3 x10).f0.f0.f2) ((rd_T44 x3 x10).f0.f0.f3) ((rd_T44 x3 x10).f0.f0.f4) ((rd_T44 x3 x10).f0.f0.f5) ((rd_T44 x3 x10).f0.f1.f0) ((rd_T44 x3 x10).f0.f1.f1) ((rd_T44 x3 x10).f0.f2.f0) ((rd_T44 x3 x10).f0.f2.f1) ((rd_T44 x3 x10).f0.f2.f2) ((rd_T44 x3 x10).f0.f3.f0) ((rd_T44 x3 x10).f0.f3.f1) ((rd_T44 x3 x10).f1) ((rd_T44 x3 x10).f2.f0.f0) ((rd_T44 x3 x10).f2.f0.f1) ((rd_T44 x3 x10).f2.f0.f2) ((rd_T44 x3 x10).f2.f0.f3) ((rd_T44 x3 x10).f2.f0.f4) ((rd_T44 x3 x10).f2.f0.f5) ((rd_T44 x3 x10).f2.f1.f0) ((rd_T44 x3 x10).f2.f1.f1) ((rd_T44 x3 x10).f2.f2.f0) ((rd_T44 x3 x10).f2.f2.f1) ((rd_T44 x3 x10).f2.f2.f2) ((rd_T44 x3 x10).f2.f3.f0) ((rd_T44 x3 x10).f2.f3.f1)).bind fun bt435 => (if 0 ≤ x10 then (if x10 < (x3.length : Int) then (impl_compound.l0 k (x3.set (x10 : Int).toNat (⟨(⟨(⟨bt435.1, bt435.2.1, bt435.2.2.1, bt435.2.2.2.1, bt435.2.2.2.2.1, bt435.2.2.2.2.2.1⟩ : S37), (⟨bt435.2.2.2.2.2.2.1, bt435.2.2.2.2.2.2.2.1⟩ : S38), (⟨bt435.2.2.2.2.2.2.2.2.1, bt435.2.2.2.2.2.2.2.2.2.1, bt435.2.2.2.2.2.2.2.2.2.2.1⟩ : S39), (⟨bt435.2.2.2.2.2.2.2.2.2.2.2.1, bt435.2.2.2.2.2.2.2.2.2.2.2.2.1⟩ : S40)⟩ : S42), bt435.2.2.2.2.2.2.2.2.2.2.2.2.2.1, (⟨(⟨bt435.2.2.2.2.2.2.2.2.2.2.2.2.2.2.1, bt435.2.2.2.2.2.2.2.2.2.2.2.2.2.2.2.1, bt435.2.2.2.2.2.2.2.2.2.2.2.2.2.2.2.2.1, bt435.2.2.2.2.2.2.2.2.2.2.2.2.2.2.2.2.2.1, bt435.2.2.2.2.2.2.2.2.2.2.2.2.2.2.2.2.2.2.1, bt435.2.2.2.2.2.2.2.2.2.2.2.2.2.2.2.2.2.2.2.1⟩ : S37), (⟨bt435.2.2.2.2.2.2.2.2.2.2.2.2.2.2.2.2.2.2.2.2.1, bt435.2.2.2.2.2.2.2.2.2.2.2.2.2.2.2.2.2.2.2.2.2.1⟩ : S38), (⟨bt435.2.2.2.2.2.2.2.2.2.2.2.2.2.2.2.2.2.2.2.2.2.2.1, bt435.2.2.2.2.2.2.2.2.2.2.2.2.2.2.2.2.2.2.2.2.2.2.2.1, bt435.2.2.2.2.2.2.2.2.2.2.2.2.2.2.2.2.2.2.2.2.2.2.2.2.1⟩ : S39), (⟨bt435.2.2.2.2.2.2.2.2.2.2.2.2.2.2.2.2.2.2.2.2.2.2.2.2.2.1, bt435.2.2.2.2.2.2.2.2.2.2.2.2.2.2.2.2.2.2.2.2.2.2.2.2.2.2⟩ : S40)⟩ : S42)⟩ : S44)) x9 (wrap64 (x10 + 1))) else (none)) else (none))) else (none)) else (none)) else (some x3)

def impl_compound.f (k : Nat) (l0 : List (S44)) : Option ((List (S44))) := (impl_Sign_79.f l0).bind fun t431 => (impl_compound.l0 k t431 (wrap64 ((t431.length : Int) - 1)) 0)

theorem impl_compound.mono_l : ∀ k, (∀ y0 y1 y2, LeO (impl_compound.l0 k y0 y1 y2) (impl_compound.l0 (k + 1) y0 y1 y2))
  | 0 => fun _ _ _ r h => by simp [impl_compound.l0] at h
  | k + 1 => by
    have ih0 := impl_compound.mono_l k
    · intro y0 y1 y2
      unfold impl_compound.l0
      repeat' first
      | (with_reducible exact ih0 _ _ _)
      | (with_reducible exact impl_Sign_reduced.mono _ _ _ _ _ _ _ _ _ _ _ _ _ _ _ _ _ _ _ _ _ _ _ _ _ _ _ _)
      | (with_reducible exact LeO.refl _)
      | (with_reducible exact LeO.none _)
      | (with_reducible refine LeO.ite ?_ ?_)
      | (with_reducible refine LeO.bind ?_ (fun _ => ?_))
      | exact ih0 _ _ _
      | exact impl_Sign_reduced.mono _ _ _ _ _ _ _ _ _ _ _ _ _ _ _ _ _ _ _ _ _ _ _ _ _ _ _ _
      | exact LeO.none _
      | refine LeO.ite ?_ ?_
      | refine LeO.bind ?_ (fun _ => ?_)

theorem impl_compound.mono : ∀ a0 k, LeO (impl_compound.f k a0) (impl_compound.f (k + 1) a0) := by
  intro a0 k
  have ih0 := impl_compound.mono_l k
  unfold impl_compound.f
  repeat' first
      | (with_reducible exact ih0 _ _ _)
      | (with_reducible exact impl_Sign_reduced.mono _ _ _ _ _ _ _ _ _ _ _ _ _ _ _ _ _ _ _ _ _ _ _ _ _ _ _ _)
      | (with_reducible exact LeO.refl _)
      | (with_reducible exact LeO.none _)
      | (with_reducible refine LeO.ite ?_ ?_)
      | (with_reducible refine LeO.bind ?_ (fun _ => ?_))
      | exact ih0 _ _ _
      | exact impl_Sign_reduced.mono _ _ _ _ _ _ _ _ _ _ _ _ _ _ _ _ _ _ _ _ _ _ _ _ _ _ _ _
      | exact LeO.none _
      | refine LeO.ite ?_ ?_
      | refine LeO.bind ?_ (fun _ => ?_)

def impl_compound.e (k : Nat) : Refl.Ent G := ⟨44, [(.c (.row 44 false))], .one (.c (.row 44 false)), fun x => impl_compound.f k x⟩
def impl_compound.pl0 : Refl.Pn G (Refl.PT G (impl_compound.e 0).ol) := ⟨true, 0, ⟨[(3, .v (.c (.own 44))), (9, .v (.c li)), (10, .v (.c li))], []⟩, fun k x => impl_compound.l0 k x.1 x.2.1 x.2.2⟩
theorem impl_compound.ok (k : Nat) : Refl.EntOK Tryz.prog (impl_compound.e k) := Refl.ent_ok 1000000 k GC (fun k => [impl_Sign_79.e k, impl_Sign_reduced.e k]) (fun k => ⟨impl_Sign_79.ok k, impl_Sign_reduced.ok k, trivial⟩) Tryz.func44 (by kernel_rfl) [impl_compound.pl0] (ps := [impl_compound.pl0]) (by kernel_rfl) ⟨⟨fun x => by kernel_rfl, fun k x => by kernel_rfl⟩, trivial⟩ (fun x => by kernel_rfl)

/-! ### impl_IsReduced: function 16 -/

def impl_IsReduced.f (k : Nat) (l0 : List (S44)) : Option (Bool × Bool) := (impl_isMade.f k l0).bind fun t463 => (if t463 = true then ((impl_compound.f k l0).bind fun t464 => ((impl_Sign_43.f k t464 l0).bind fun t467 => (some (t467, true)))) else (some (false, false)))

theorem impl_IsReduced.mono : ∀ a0 k, LeO (impl_IsReduced.f k a0) (impl_IsReduced.f (k + 1) a0) := by
  intro a0 k
  unfold impl_IsReduced.f
  repeat' first
      | (with_reducible exact impl_Sign_43.mono _ _ _)
      | (with_reducible exact impl_compound.mono _ _)
      | (with_reducible exact impl_isMade.mono _ _)
      | (with_reducible exact LeO.refl _)
      | (with_reducible exact LeO.none _)
      | (with_reducible refine LeO.ite ?_ ?_)
      | (with_reducible refine LeO.bind ?_ (fun _ => ?_))
      | exact impl_Sign_43.mono _ _ _
      | exact impl_compound.mono _ _
      | exact impl_isMade.mono _ _
      | exact LeO.none _
      | refine LeO.ite ?_ ?_
      | refine LeO.bind ?_ (fun _ => ?_)

def impl_IsReduced.e (k : Nat) : Refl.Ent G := ⟨16, [(.c (.row 44 false))], .tup [(.c .bool), (.c .bool)], fun x => impl_IsReduced.f k x⟩
theorem impl_IsReduced.ok (k : Nat) : Refl.EntOK Tryz.prog (impl_IsReduced.e k) := Refl.ent_ok 1000000 k GC (fun k => [impl_isMade.e k, impl_compound.e k, impl_Sign_43.e k]) (fun k => ⟨impl_isMade.ok k, impl_compound.ok k, impl_Sign_43.ok k, trivial⟩) Tryz.func16 (by kernel_rfl) [] (ps := []) (by kernel_rfl) trivial (fun x => by kernel_rfl)

/-! ### laws_eqShape: function 125 -/

def laws_eqShape.f (a0_0 : Int) (a0_1 : Int) (a0_2 : Int) (a0_3 : Int) (a0_4 : Int) (a0_5 : Bool) (a1_0 : Int) (a1_1 : Int) (a1_2 : Int) (a1_3 : Int) (a1_4 : Int) (a1_5 : Bool) : Option (Bool) := if a0_0 = a1_0 then (if a0_1 = a1_1 then (if a0_2 = a1_2 then (if a0_3 = a1_3 then (if a0_4 = a1_4 then (if ((a0_5 == a1_5) = true) then (some true) else (some false)) else (some false)) else (some false)) else (some false)) else (some false)) else (some false)

def laws_eqShape.e (k : Nat) : Refl.Ent G := ⟨125, [(.agg [li, li, li, li, li, .bool]), (.agg [li, li, li, li, li, .bool])], .one (.c .bool), fun x => laws_eqShape.f x.1 x.2.1 x.2.2.1 x.2.2.2.1 x.2.2.2.2.1 x.2.2.2.2.2.1 x.2.2.2.2.2.2.1 x.2.2.2.2.2.2.2.1 x.2.2.2.2.2.2.2.2.1 x.2.2.2.2.2.2.2.2.2.1 x.2.2.2.2.2.2.2.2.2.2.1 x.2.2.2.2.2.2.2.2.2.2.2⟩
theorem laws_eqShape.ok (k : Nat) : Refl.EntOK Tryz.prog (laws_eqShape.e k) := Refl.ent_ok 1000000 k GC (fun k => []) (fun k => trivial) Tryz.func125 (by kernel_rfl) [] (ps := []) (by kernel_rfl) trivial (fun x => by kernel_rfl)

/-! ### laws_eqOrient: function 126 -/

def laws_eqOrient.f (a0_0 : Int) (a0_1 : Int) (a1_0 : Int) (a1_1 : Int) : Option (Bool) := if a0_0 = a1_0 then (if a0_1 = a1_1 then (some true) else (some false)) else (some false)

def laws_eqOrient.e (k : Nat) : Refl.Ent G := ⟨126, [(.agg [li, li]), (.agg [li, li])], .one (.c .bool), fun x => laws_eqOrient.f x.1 x.2.1 x.2.2.1 x.2.2.2⟩
theorem laws_eqOrient.ok (k : Nat) : Refl.EntOK Tryz.prog (laws_eqOrient.e k) := Refl.ent_ok 1000000 k GC (fun k => []) (fun k => trivial) Tryz.func126 (by kernel_rfl) [] (ps := []) (by kernel_rfl) trivial (fun x => by kernel_rfl)

/-! ### laws_eqPlace: function 127 -/

def laws_eqPlace.f (a0_0 : Int) (a0_1 : Int) (a0_2 : Bool) (a1_0 : Int) (a1_1 : Int) (a1_2 : Bool) : Option (Bool) := if a0_0 = a1_0 then (if a0_1 = a1_1 then (if ((a0_2 == a1_2) = true) then (some true) else (some false)) else (some false)) else (some false)

def laws_eqPlace.e (k : Nat) : Refl.Ent G := ⟨127, [(.agg [li, li, .bool]), (.agg [li, li, .bool])], .one (.c .bool), fun x => laws_eqPlace.f x.1 x.2.1 x.2.2.1 x.2.2.2.1 x.2.2.2.2.1 x.2.2.2.2.2⟩
theorem laws_eqPlace.ok (k : Nat) : Refl.EntOK Tryz.prog (laws_eqPlace.e k) := Refl.ent_ok 1000000 k GC (fun k => []) (fun k => trivial) Tryz.func127 (by kernel_rfl) [] (ps := []) (by kernel_rfl) trivial (fun x => by kernel_rfl)

/-! ### laws_eqMove: function 128 -/

def laws_eqMove.f (a0_0 : ByteArray) (a0_1 : Int) (a1_0 : ByteArray) (a1_1 : Int) : Option (Bool) := if a0_0.toList = a1_0.toList then (if a0_1 = a1_1 then (some true) else (some false)) else (some false)

def laws_eqMove.e (k : Nat) : Refl.Ent G := ⟨128, [(.agg [.str, li]), (.agg [.str, li])], .one (.c .bool), fun x => laws_eqMove.f x.1 x.2.1 x.2.2.1 x.2.2.2⟩
theorem laws_eqMove.ok (k : Nat) : Refl.EntOK Tryz.prog (laws_eqMove.e k) := Refl.ent_ok 1000000 k GC (fun k => []) (fun k => trivial) Tryz.func128 (by kernel_rfl) [] (ps := []) (by kernel_rfl) trivial (fun x => by kernel_rfl)

/-! ### laws_eqHand: function 81 -/

def laws_eqHand.f (a0_0 : Int) (a0_1 : Int) (a0_2 : Int) (a0_3 : Int) (a0_4 : Int) (a0_5 : Bool) (a0_6 : Int) (a0_7 : Int) (a0_8 : Int) (a0_9 : Int) (a0_10 : Bool) (a0_11 : ByteArray) (a0_12 : Int) (a1_0 : Int) (a1_1 : Int) (a1_2 : Int) (a1_3 : Int) (a1_4 : Int) (a1_5 : Bool) (a1_6 : Int) (a1_7 : Int) (a1_8 : Int) (a1_9 : Int) (a1_10 : Bool) (a1_11 : ByteArray) (a1_12 : Int) : Option (Bool) := (laws_eqShape.f a0_0 a0_1 a0_2 a0_3 a0_4 a0_5 a1_0 a1_1 a1_2 a1_3 a1_4 a1_5).bind fun t478 => (if t478 = true then ((laws_eqOrient.f a0_6 a0_7 a1_6 a1_7).bind fun t479 => (if t479 = true then ((laws_eqPlace.f a0_8 a0_9 a0_10 a1_8 a1_9 a1_10).bind fun t480 => (if t480 = true then ((laws_eqMove.f a0_11 a0_12 a1_11 a1_12).bind fun t481 => (if t481 = true then (some true) else (some false))) else (some false))) else (some false))) else (some false))

def laws_eqHand.e (k : Nat) : Refl.Ent G := ⟨81, [(.agg gL0), (.agg gL0)], .one (.c .bool), fun x => laws_eqHand.f x.1 x.2.1 x.2.2.1 x.2.2.2.1 x.2.2.2.2.1 x.2.2.2.2.2.1 x.2.2.2.2.2.2.1 x.2.2.2.2.2.2.2.1 x.2.2.2.2.2.2.2.2.1 x.2.2.2.2.2.2.2.2.2.1 x.2.2.2.2.2.2.2.2.2.2.1 x.2.2.2.2.2.2.2.2.2.2.2.1 x.2.2.2.2.2.2.2.2.2.2.2.2.1 x.2.2.2.2.2.2.2.2.2.2.2.2.2.1 x.2.2.2.2.2.2.2.2.2.2.2.2.2.2.1 x.2.2.2.2.2.2.2.2.2.2.2.2.2.2.2.1 x.2.2.2.2.2.2.2.2.2.2.2.2.2.2.2.2.1 x.2.2.2.2.2.2.2.2.2.2.2.2.2.2.2.2.2.1 x.2.2.2.2.2.2.2.2.2.2.2.2.2.2.2.2.2.2.1 x.2.2.2.2.2.2.2.2.2.2.2.2.2.2.2.2.2.2.2.1 x.2.2.2.2.2.2.2.2.2.2.2.2.2.2.2.2.2.2.2.2.1 x.2.2.2.2.2.2.2.2.2.2.2.2.2.2.2.2.2.2.2.2.2.1 x.2.2.2.2.2.2.2.2.2.2.2.2.2.2.2.2.2.2.2.2.2.2.1 x.2.2.2.2.2.2.2.2.2.2.2.2.2.2.2.2.2.2.2.2.2.2.2.1 x.2.2.2.2.2.2.2.2.2.2.2.2.2.2.2.2.2.2.2.2.2.2.2.2.1 x.2.2.2.2.2.2.2.2.2.2.2.2.2.2.2.2.2.2.2.2.2.2.2.2.2⟩
theorem laws_eqHand.ok (k : Nat) : Refl.EntOK Tryz.prog (laws_eqHand.e k) := Refl.ent_ok 1000000 k GC (fun k => [laws_eqShape.e k, laws_eqOrient.e k, laws_eqPlace.e k, laws_eqMove.e k]) (fun k => ⟨laws_eqShape.ok k, laws_eqOrient.ok k, laws_eqPlace.ok k, laws_eqMove.ok k, trivial⟩) Tryz.func81 (by kernel_rfl) [] (ps := []) (by kernel_rfl) trivial (fun x => by kernel_rfl)

/-! ### laws_eqSign: function 45 -/

def laws_eqSign.f (a0_0 : Int) (a0_1 : Int) (a0_2 : Int) (a0_3 : Int) (a0_4 : Int) (a0_5 : Bool) (a0_6 : Int) (a0_7 : Int) (a0_8 : Int) (a0_9 : Int) (a0_10 : Bool) (a0_11 : ByteArray) (a0_12 : Int) (a0_13 : Bool) (a0_14 : Int) (a0_15 : Int) (a0_16 : Int) (a0_17 : Int) (a0_18 : Int) (a0_19 : Bool) (a0_20 : Int) (a0_21 : Int) (a0_22 : Int) (a0_23 : Int) (a0_24 : Bool) (a0_25 : ByteArray) (a0_26 : Int) (a1_0 : Int) (a1_1 : Int) (a1_2 : Int) (a1_3 : Int) (a1_4 : Int) (a1_5 : Bool) (a1_6 : Int) (a1_7 : Int) (a1_8 : Int) (a1_9 : Int) (a1_10 : Bool) (a1_11 : ByteArray) (a1_12 : Int) (a1_13 : Bool) (a1_14 : Int) (a1_15 : Int) (a1_16 : Int) (a1_17 : Int) (a1_18 : Int) (a1_19 : Bool) (a1_20 : Int) (a1_21 : Int) (a1_22 : Int) (a1_23 : Int) (a1_24 : Bool) (a1_25 : ByteArray) (a1_26 : Int) : Option (Bool) := (laws_eqHand.f a0_0 a0_1 a0_2 a0_3 a0_4 a0_5 a0_6 a0_7 a0_8 a0_9 a0_10 a0_11 a0_12 a1_0 a1_1 a1_2 a1_3 a1_4 a1_5 a1_6 a1_7 a1_8 a1_9 a1_10 a1_11 a1_12).bind fun t484 => (if t484 = true then (if ((a0_13 == a1_13) = true) then ((laws_eqHand.f a0_14 a0_15 a0_16 a0_17 a0_18 a0_19 a0_20 a0_21 a0_22 a0_23 a0_24 a0_25 a0_26 a1_14 a1_15 a1_16 a1_17 a1_18 a1_19 a1_20 a1_21 a1_22 a1_23 a1_24 a1_25 a1_26).bind fun t485 => (if t485 = true then (some true) else (some false))) else (some false)) else (some false))

def laws_eqSign.e (k : Nat) : Refl.Ent G := ⟨45, [(.agg gL1), (.agg gL1)], .one (.c .bool), fun x => laws_eqSign.f x.1 x.2.1 x.2.2.1 x.2.2.2.1 x.2.2.2.2.1 x.2.2.2.2.2.1 x.2.2.2.2.2.2.1 x.2.2.2.2.2.2.2.1 x.2.2.2.2.2.2.2.2.1 x.2.2.2.2.2.2.2.2.2.1 x.2.2.2.2.2.2.2.2.2.2.1 x.2.2.2.2.2.2.2.2.2.2.2.1 x.2.2.2.2.2.2.2.2.2.2.2.2.1 x.2.2.2.2.2.2.2.2.2.2.2.2.2.1 x.2.2.2.2.2.2.2.2.2.2.2.2.2.2.1 x.2.2.2.2.2.2.2.2.2.2.2.2.2.2.2.1 x.2.2.2.2.2.2.2.2.2.2.2.2.2.2.2.2.1 x.2.2.2.2.2.2.2.2.2.2.2.2.2.2.2.2.2.1 x.2.2.2.2.2.2.2.2.2.2.2.2.2.2.2.2.2.2.1 x.2.2.2.2.2.2.2.2.2.2.2.2.2.2.2.2.2.2.2.1 x.2.2.2.2.2.2.2.2.2.2.2.2.2.2.2.2.2.2.2.2.1 x.2.2.2.2.2.2.2.2.2.2.2.2.2.2.2.2.2.2.2.2.2.1 x.2.2.2.2.2.2.2.2.2.2.2.2.2.2.2.2.2.2.2.2.2.2.1 x.2.2.2.2.2.2.2.2.2.2.2.2.2.2.2.2.2.2.2.2.2.2.2.1 x.2.2.2.2.2.2.2.2.2.2.2.2.2.2.2.2.2.2.2.2.2.2.2.2.1 x.2.2.2.2.2.2.2.2.2.2.2.2.2.2.2.2.2.2.2.2.2.2.2.2.2.1 x.2.2.2.2.2.2.2.2.2.2.2.2.2.2.2.2.2.2.2.2.2.2.2.2.2.2.1 x.2.2.2.2.2.2.2.2.2.2.2.2.2.2.2.2.2.2.2.2.2.2.2.2.2.2.2.1 x.2.2.2.2.2.2.2.2.2.2.2.2.2.2.2.2.2.2.2.2.2.2.2.2.2.2.2.2.1 x.2.2.2.2.2.2.2.2.2.2.2.2.2.2.2.2.2.2.2.2.2.2.2.2.2.2.2.2.2.1 x.2.2.2.2.2.2.2.2.2.2.2.2.2.2.2.2.2.2.2.2.2.2.2.2.2.2.2.2.2.2.1 x.2.2.2.2.2.2.2.2.2.2.2.2.2.2.2.2.2.2.2.2.2.2.2.2.2.2.2.2.2.2.2.1 x.2.2.2.2.2.2.2.2.2.2.2.2.2.2.2.2.2.2.2.2.2.2.2.2.2.2.2.2.2.2.2.2.1 x.2.2.2.2.2.2.2.2.2.2.2.2.2.2.2.2.2.2.2.2.2.2.2.2.2.2.2.2.2.2.2.2.2.1 x.2.2.2.2.2.2.2.2.2.2.2.2.2.2.2.2.2.2.2.2.2.2.2.2.2.2.2.2.2.2.2.2.2.2.1 x.2.2.2.2.2.2.2.2.2.2.2.2.2.2.2.2.2.2.2.2.2.2.2.2.2.2.2.2.2.2.2.2.2.2.2.1 x.2.2.2.2.2.2.2.2.2.2.2.2.2.2.2.2.2.2.2.2.2.2.2.2.2.2.2.2.2.2.2.2.2.2.2.2.1 x.2.2.2.2.2.2.2.2.2.2.2.2.2.2.2.2.2.2.2.2.2.2.2.2.2.2.2.2.2.2.2.2.2.2.2.2.2.1 x.2.2.2.2.2.2.2.2.2.2.2.2.2.2.2.2.2.2.2.2.2.2.2.2.2.2.2.2.2.2.2.2.2.2.2.2.2.2.1 x.2.2.2.2.2.2.2.2.2.2.2.2.2.2.2.2.2.2.2.2.2.2.2.2.2.2.2.2.2.2.2.2.2.2.2.2.2.2.2.1 x.2.2.2.2.2.2.2.2.2.2.2.2.2.2.2.2.2.2.2.2.2.2.2.2.2.2.2.2.2.2.2.2.2.2.2.2.2.2.2.2.1 x.2.2.2.2.2.2.2.2.2.2.2.2.2.2.2.2.2.2.2.2.2.2.2.2.2.2.2.2.2.2.2.2.2.2.2.2.2.2.2.2.2.1 x.2.2.2.2.2.2.2.2.2.2.2.2.2.2.2.2.2.2.2.2.2.2.2.2.2.2.2.2.2.2.2.2.2.2.2.2.2.2.2.2.2.2.1 x.2.2.2.2.2.2.2.2.2.2.2.2.2.2.2.2.2.2.2.2.2.2.2.2.2.2.2.2.2.2.2.2.2.2.2.2.2.2.2.2.2.2.2.1 x.2.2.2.2.2.2.2.2.2.2.2.2.2.2.2.2.2.2.2.2.2.2.2.2.2.2.2.2.2.2.2.2.2.2.2.2.2.2.2.2.2.2.2.2.1 x.2.2.2.2.2.2.2.2.2.2.2.2.2.2.2.2.2.2.2.2.2.2.2.2.2.2.2.2.2.2.2.2.2.2.2.2.2.2.2.2.2.2.2.2.2.1 x.2.2.2.2.2.2.2.2.2.2.2.2.2.2.2.2.2.2.2.2.2.2.2.2.2.2.2.2.2.2.2.2.2.2.2.2.2.2.2.2.2.2.2.2.2.2.1 x.2.2.2.2.2.2.2.2.2.2.2.2.2.2.2.2.2.2.2.2.2.2.2.2.2.2.2.2.2.2.2.2.2.2.2.2.2.2.2.2.2.2.2.2.2.2.2.1 x.2.2.2.2.2.2.2.2.2.2.2.2.2.2.2.2.2.2.2.2.2.2.2.2.2.2.2.2.2.2.2.2.2.2.2.2.2.2.2.2.2.2.2.2.2.2.2.2.1 x.2.2.2.2.2.2.2.2.2.2.2.2.2.2.2.2.2.2.2.2.2.2.2.2.2.2.2.2.2.2.2.2.2.2.2.2.2.2.2.2.2.2.2.2.2.2.2.2.2.1 x.2.2.2.2.2.2.2.2.2.2.2.2.2.2.2.2.2.2.2.2.2.2.2.2.2.2.2.2.2.2.2.2.2.2.2.2.2.2.2.2.2.2.2.2.2.2.2.2.2.2.1 x.2.2.2.2.2.2.2.2.2.2.2.2.2.2.2.2.2.2.2.2.2.2.2.2.2.2.2.2.2.2.2.2.2.2.2.2.2.2.2.2.2.2.2.2.2.2.2.2.2.2.2.1 x.2.2.2.2.2.2.2.2.2.2.2.2.2.2.2.2.2.2.2.2.2.2.2.2.2.2.2.2.2.2.2.2.2.2.2.2.2.2.2.2.2.2.2.2.2.2.2.2.2.2.2.2.1 x.2.2.2.2.2.2.2.2.2.2.2.2.2.2.2.2.2.2.2.2.2.2.2.2.2.2.2.2.2.2.2.2.2.2.2.2.2.2.2.2.2.2.2.2.2.2.2.2.2.2.2.2.2⟩
theorem laws_eqSign.ok (k : Nat) : Refl.EntOK Tryz.prog (laws_eqSign.e k) := Refl.ent_ok 1000000 k GC (fun k => [laws_eqHand.e k]) (fun k => ⟨laws_eqHand.ok k, trivial⟩) Tryz.func45 (by kernel_rfl) [] (ps := []) (by kernel_rfl) trivial (fun x => by kernel_rfl)

/-! ### laws_eqSignS: function 17 -/

def laws_eqSignS.l0 : Nat → List (S44) → List (S44) → Int → Option (Bool)
  | 0, _, _, _ => none
  | k + 1, x0, x1, x5 => if x5 < (x0.length : Int) then (if 0 ≤ x5 then (if x5 < (x0.length : Int) then (if 0 ≤ x5 then (if x5 < (x1.length : Int) then ((laws_eqSign.f ((rd_T44 x0 x5).f0.f0.f0) ((rd_T44 x0 x5).f0.f0.f1) ((rd_T44 x0 x5).f0.f0.f2) ((rd_T44 x0 x5).f0.f0.f3) ((rd_T44 x0 x5).f0.f0.f4) ((rd_T44 x0 x5).f0.f0.f5) ((rd_T44 x0 x5).f0.f1.f0) ((rd_T44 x0 x5).f0.f1.f1) ((rd_T44 x0 x5).f0.f2.f0) ((rd_T44 x0 x5).f0.f2.f1) ((rd_T44 x0 x5).f0.f2.f2) ((rd_T44 x0 x5).f0.f3.f0) ((rd_T44 x0 x5).f0.f3.f1) ((rd_T44 x0 x5).f1) ((rd_T44 x0 x5).f2.f0.f0) ((rd_T44 x0 x5).f2.f0.f1) ((rd_T44 x0 x5).f2.f0.f2) ((rd_T44 x0 x5).f2.f0.f3) ((rd_T44 x0 x5).f2.f0.f4) ((rd_T44 x0 x5).f2.f0.f5) ((rd_T44 x0 x5).f2.f1.f0) ((rd_T44 x0 x5).f2.f1.f1) ((rd_T44 x0 x5).f2.f2.f0) ((rd_T44 x0 x5).f2.f2.f1) ((rd_T44 x0 x5).f2.f2.f2) ((rd_T44 x0 x5).f2.f3.f0) ((rd_T44 x0 x5).f2.f3.f1) ((rd_T44 x1 x5).f0.f0.f0) ((rd_T44 x1 x5).f0.f0.f1) ((rd_T44 x1 x5).f0.f0.f2) ((rd_T44 x1 x5).f0.f0.f3) ((rd_T44 x1 x5).f0.f0.f4) ((rd_T44 x1 x5).f0.f0.f5) ((rd_T44 x1 x5).f0.f1.f0) ((rd_T44 x1 x5).f0.f1.f1) ((rd_T44 x1 x5).f0.f2.f0) ((rd_T44 x1 x5).f0.f2.f1) ((rd_T44 x1 x5).f0.f2.f2) ((rd_T44 x1 x5).f0.f3.f0) ((rd_T44 x1 x5).f0.f3.f1) ((rd_T44 x1 x5).f1) ((rd_T44 x1 x5).f2.f0.f0) ((rd_T44 x1 x5).f2.f0.f1) ((rd_T44 x1 x5).f2.f0.f2) ((rd_T44 x1 x5).f2.f0.f3) ((rd_T44 x1 x5).f2.f0.f4) ((rd_T44 x1 x5).f2.f0.f5) ((rd_T44 x1 x5).f2.f1.f0) ((rd_T44 x1 x5).f2.f1.f1) ((rd_T44 x1 x5).f2.f2.f0) ((rd_T44 x1 x5).f2.f2.f1) ((rd_T44 x1 x5).f2.f2.f2) ((rd_T44 x1 x5).f2.f3.f0) ((rd_T44 x1 x5).f2.f3.f1)).bind fun t488 => (if t488 = true then (laws_eqSignS.l0 k x0 x1 (wrap64 (x5 + 1))) else (some false))) else (none)) else (none)) else (none)) else (none)) else (some true)

def laws_eqSignS.f (k : Nat) (l0 : List (S44)) (l1 : List (S44)) : Option (Bool) := if (l0.length : Int) = (l1.length : Int) then (laws_eqSignS.l0 k l0 l1 0) else (some false)

theorem laws_eqSignS.mono_l : ∀ k, (∀ y0 y1 y2, LeO (laws_eqSignS.l0 k y0 y1 y2) (laws_eqSignS.l0 (k + 1) y0 y1 y2))
  | 0 => fun _ _ _ r h => by simp [laws_eqSignS.l0] at h
  | k + 1 => by
    have ih0 := laws_eqSignS.mono_l k
    · intro y0 y1 y2
      unfold laws_eqSignS.l0
      repeat' first
      | (with_reducible exact ih0 _ _ _)
      | (with_reducible exact LeO.refl _)
      | (with_reducible exact LeO.none _)
      | (with_reducible refine LeO.ite ?_ ?_)
      | (with_reducible refine LeO.bind ?_ (fun _ => ?_))
      | exact ih0 _ _ _
      | exact LeO.none _
      | refine LeO.ite ?_ ?_
      | refine LeO.bind ?_ (fun _ => ?_)

theorem laws_eqSignS.mono : ∀ a0 a1 k, LeO (laws_eqSignS.f k a0 a1) (laws_eqSignS.f (k + 1) a0 a1) := by
  intro a0 a1 k
  have ih0 := laws_eqSignS.mono_l k
  unfold laws_eqSignS.f
  repeat' first
      | (with_reducible exact ih0 _ _ _)
      | (with_reducible exact LeO.refl _)
      | (with_reducible exact LeO.none _)
      | (with_reducible refine LeO.ite ?_ ?_)
      | (with_reducible refine LeO.bind ?_ (fun _ => ?_))
      | exact ih0 _ _ _
      | exact LeO.none _
      | refine LeO.ite ?_ ?_
      | refine LeO.bind ?_ (fun _ => ?_)

def laws_eqSignS.e (k : Nat) : Refl.Ent G := ⟨17, [(.c (.row 44 false)), (.c (.row 44 false))], .one (.c .bool), fun x => laws_eqSignS.f k x.1 x.2⟩
def laws_eqSignS.pl0 : Refl.Pn G (Refl.PT G (laws_eqSignS.e 0).ol) := ⟨true, 0, ⟨[(0, .v (.c (.row 44 false))), (1, .v (.c (.row 44 false))), (5, .v (.c li)), (4, .k (Value.bool false))], []⟩, fun k x => laws_eqSignS.l0 k x.1 x.2.1 x.2.2⟩
theorem laws_eqSignS.ok (k : Nat) : Refl.EntOK Tryz.prog (laws_eqSignS.e k) := Refl.ent_ok 1000000 k GC (fun k => [laws_eqSign.e k]) (fun k => ⟨laws_eqSign.ok k, trivial⟩) Tryz.func17 (by kernel_rfl) [laws_eqSignS.pl0] (ps := [laws_eqSignS.pl0]) (by kernel_rfl) ⟨⟨fun x => by kernel_rfl, fun k x => by kernel_rfl⟩, trivial⟩ (fun x => by kernel_rfl)

/-! ### laws_FnExactIsReduced: function 4 -/

def laws_FnExactIsReduced.j0 : Nat → List (S33) → List (S44) → Bool → Option (Bool)
  | 0, _, _, _ => none
  | k + 1, x0, x6, x34 => if x34 = true then (some false) else ((laws_toSignS.f k x0).bind fun t500 => ((laws_eqSignS.f k x6 t500).bind fun t503 => (if t503 = true then (some true) else (some false))))

def laws_FnExactIsReduced.f (k : Nat) (l0 : List (S33)) : Option (Bool) := (laws_szSignS.f k l0 1048576).bind fun t489 => (if t489 < 0 then (some true) else ((laws_toSignS.f k l0).bind fun t490 => ((spec_IsReduced.f k t490).bind fun bt493 => ((laws_toSignS.f k l0).bind fun t495 => ((impl_IsReduced.f k t495).bind fun bt498 => (if ((bt498.1 == bt493.1) = true) then (laws_FnExactIsReduced.j0 k l0 t495 (!(bt498.2 == bt493.2))) else (laws_FnExactIsReduced.j0 k l0 t495 true)))))))

theorem laws_FnExactIsReduced.mono_l : ∀ k, (∀ y0 y1 y2, LeO (laws_FnExactIsReduced.j0 k y0 y1 y2) (laws_FnExactIsReduced.j0 (k + 1) y0 y1 y2))
  | 0 => fun _ _ _ r h => by simp [laws_FnExactIsReduced.j0] at h
  | k + 1 => by
    have ih0 := laws_FnExactIsReduced.mono_l k
    · intro y0 y1 y2
      unfold laws_FnExactIsReduced.j0
      repeat' first
      | (with_reducible exact ih0 _ _ _)
      | (with_reducible exact impl_IsReduced.mono _ _)
      | (with_reducible exact laws_eqSignS.mono _ _ _)
      | (with_reducible exact laws_szSignS.mono _ _ _)
      | (with_reducible exact laws_toSignS.mono _ _)
      | (with_reducible exact spec_IsReduced.mono _ _)
      | (with_reducible exact LeO.refl _)
      | (with_reducible exact LeO.none _)
      | (with_reducible refine LeO.ite ?_ ?_)
      | (with_reducible refine LeO.bind ?_ (fun _ => ?_))
      | exact ih0 _ _ _
      | exact impl_IsReduced.mono _ _
      | exact laws_eqSignS.mono _ _ _
      | exact laws_szSignS.mono _ _ _
      | exact laws_toSignS.mono _ _
      | exact spec_IsReduced.mono _ _
      | exact LeO.none _
      | refine LeO.ite ?_ ?_
      | refine LeO.bind ?_ (fun _ => ?_)

theorem laws_FnExactIsReduced.mono : ∀ a0 k, LeO (laws_FnExactIsReduced.f k a0) (laws_FnExactIsReduced.f (k + 1) a0) := by
  intro a0 k
  have ih0 := laws_FnExactIsReduced.mono_l k
  unfold laws_FnExactIsReduced.f
  repeat' first
      | (with_reducible exact ih0 _ _ _)
      | (with_reducible exact impl_IsReduced.mono _ _)
      | (with_reducible exact laws_eqSignS.mono _ _ _)
      | (with_reducible exact laws_szSignS.mono _ _ _)
      | (with_reducible exact laws_toSignS.mono _ _)
      | (with_reducible exact spec_IsReduced.mono _ _)
      | (with_reducible exact LeO.refl _)
      | (with_reducible exact LeO.none _)
      | (with_reducible refine LeO.ite ?_ ?_)
      | (with_reducible refine LeO.bind ?_ (fun _ => ?_))
      | exact ih0 _ _ _
      | exact impl_IsReduced.mono _ _
      | exact laws_eqSignS.mono _ _ _
      | exact laws_szSignS.mono _ _ _
      | exact laws_toSignS.mono _ _
      | exact spec_IsReduced.mono _ _
      | exact LeO.none _
      | refine LeO.ite ?_ ?_
      | refine LeO.bind ?_ (fun _ => ?_)

def laws_FnExactIsReduced.e (k : Nat) : Refl.Ent G := ⟨4, [(.c (.row 33 false))], .one (.c .bool), fun x => laws_FnExactIsReduced.f k x⟩
def laws_FnExactIsReduced.pj0 : Refl.Pn G (Refl.PT G (laws_FnExactIsReduced.e 0).ol) := ⟨false, 1000008, ⟨[(0, .v (.c (.row 33 false))), (6, .v (.c (.row 44 false))), (34, .v (.c .bool)), (2, .k (Value.bool false))], []⟩, fun k x => laws_FnExactIsReduced.j0 k x.1 x.2.1 x.2.2⟩
theorem laws_FnExactIsReduced.ok (k : Nat) : Refl.EntOK Tryz.prog (laws_FnExactIsReduced.e k) := Refl.ent_ok 1000000 k GC (fun k => [laws_szSignS.e k, laws_toSignS.e k, spec_IsReduced.e k, impl_IsReduced.e k, laws_eqSignS.e k]) (fun k => ⟨laws_szSignS.ok k, laws_toSignS.ok k, spec_IsReduced.ok k, impl_IsReduced.ok k, laws_eqSignS.ok k, trivial⟩) Tryz.func4 (by kernel_rfl) [laws_FnExactIsReduced.pj0] (ps := [laws_FnExactIsReduced.pj0]) (by kernel_rfl) ⟨⟨fun x => by kernel_rfl, fun k x => by kernel_rfl⟩, trivial⟩ (fun x => by kernel_rfl)

theorem laws_FnExactIsReduced.calls (k : Nat) (A0 : Option Addr) (c0 : Nat) (l0 : List (S33)) (r : Bool) (w : World) (hr0 : Kd.C k33 w A0 l0.length l0) (hc0 : l0.length ≤ c0) (h : laws_FnExactIsReduced.f k l0 = some r) :
    Calls Tryz.prog 4 #[.slice A0 l0.length c0] w fun e w' => e = .returned (.bool r) ∧ Below w.heap.size w w' :=
 Refl.EntOK.use (laws_FnExactIsReduced.ok k) l0 r h (vals := [.slice A0 l0.length c0]) (by kernel_rfl) (by kernel_rfl) ⟨row_of (k33) rk33 (fun _ _ _ h => k33_open h) rfl hr0 hc0, trivial⟩ (by kernel_rfl)

end Go.Proofs.YtojfncpjgpklhaaGreatDoor.PA
