-- Written by a program of this session (wip/tools/myprint.py). Not trusted: Lean checks it.
import Derived.Test.YtaaldnaefdodkaaGreatDoorCtx
import Derived.Test.YtaaldnaefdodkaaGreatDoorPAx7
namespace Go.Proofs.YtaaldnaefdodkaaGreatDoor.PA
open Go.RowKit Go.Proofs.YtaaldnaefdodkaaGreatDoorW.PrintWords Go.Proofs.YtaaldnaefdodkaaGreatDoorW.PrintLast Go.Proofs.YtaaldnaefdodkaaGreatDoorW.PrintMore
attribute [local go_sem] max2_int min2_int max_two min_two max_three min_three max_four min_four   -- for this text's walks alone
set_option linter.unusedVariables false
set_option linter.unusedSimpArgs false

/-! ### impl_AreEntries: function 10 -/

def impl_AreEntries.l0 : Nat → List (S71) → List (S71) → Int → Int → Option (Bool)
  | 0, _, _, _, _ => none
  | k + 1, x0, x5, x6, x7 => if x7 < x6 then (if 0 ≤ x7 then (if x7 < (x5.length : Int) then ((impl_isEntry.f k ((rd_T71 x5 x7).f0) ((rd_T71 x5 x7).f1.f0.f0.f0) ((rd_T71 x5 x7).f1.f0.f0.f1) ((rd_T71 x5 x7).f1.f0.f0.f2) ((rd_T71 x5 x7).f1.f0.f0.f3) ((rd_T71 x5 x7).f1.f0.f0.f4) ((rd_T71 x5 x7).f1.f0.f0.f5) ((rd_T71 x5 x7).f1.f0.f1.f0) ((rd_T71 x5 x7).f1.f0.f1.f1) ((rd_T71 x5 x7).f1.f0.f2.f0) ((rd_T71 x5 x7).f1.f0.f2.f1) ((rd_T71 x5 x7).f1.f0.f2.f2) ((rd_T71 x5 x7).f1.f0.f3.f0) ((rd_T71 x5 x7).f1.f0.f3.f1) ((rd_T71 x5 x7).f1.f1) ((rd_T71 x5 x7).f1.f2.f0.f0) ((rd_T71 x5 x7).f1.f2.f0.f1) ((rd_T71 x5 x7).f1.f2.f0.f2) ((rd_T71 x5 x7).f1.f2.f0.f3) ((rd_T71 x5 x7).f1.f2.f0.f4) ((rd_T71 x5 x7).f1.f2.f0.f5) ((rd_T71 x5 x7).f1.f2.f1.f0) ((rd_T71 x5 x7).f1.f2.f1.f1) ((rd_T71 x5 x7).f1.f2.f2.f0) ((rd_T71 x5 x7).f1.f2.f2.f1) ((rd_T71 x5 x7).f1.f2.f2.f2) ((rd_T71 x5 x7).f1.f2.f3.f0) ((rd_T71 x5 x7).f1.f2.f3.f1) ((rd_T71 x5 x7).f2) ((rd_T71 x5 x7).f3)).bind fun t434 => (if t434 = true then (if x7 > 0 then (if 0 ≤ (wrap64 (x7 - 1)) then (if (wrap64 (x7 - 1)) < (x0.length : Int) then ((impl_compareEntries.f k ((rd_T71 x0 (wrap64 (x7 - 1))).f0) ((rd_T71 x0 (wrap64 (x7 - 1))).f1.f0.f0.f0) ((rd_T71 x0 (wrap64 (x7 - 1))).f1.f0.f0.f1) ((rd_T71 x0 (wrap64 (x7 - 1))).f1.f0.f0.f2) ((rd_T71 x0 (wrap64 (x7 - 1))).f1.f0.f0.f3) ((rd_T71 x0 (wrap64 (x7 - 1))).f1.f0.f0.f4) ((rd_T71 x0 (wrap64 (x7 - 1))).f1.f0.f0.f5) ((rd_T71 x0 (wrap64 (x7 - 1))).f1.f0.f1.f0) ((rd_T71 x0 (wrap64 (x7 - 1))).f1.f0.f1.f1) ((rd_T71 x0 (wrap64 (x7 - 1))).f1.f0.f2.f0) ((rd_T71 x0 (wrap64 (x7 - 1))).f1.f0.f2.f1) ((rd_T71 x0 (wrap64 (x7 - 1))).f1.f0.f2.f2) ((rd_T71 x0 (wrap64 (x7 - 1))).f1.f0.f3.f0) ((rd_T71 x0 (wrap64 (x7 - 1))).f1.f0.f3.f1) ((rd_T71 x0 (wrap64 (x7 - 1))).f1.f1) ((rd_T71 x0 (wrap64 (x7 - 1))).f1.f2.f0.f0) ((rd_T71 x0 (wrap64 (x7 - 1))).f1.f2.f0.f1) ((rd_T71 x0 (wrap64 (x7 - 1))).f1.f2.f0.f2) ((rd_T71 x0 (wrap64 (x7 - 1))).f1.f2.f0.f3) ((rd_T71 x0 (wrap64 (x7 - 1))).f1.f2.f0.f4) ((rd_T71 x0 (wrap64 (x7 - 1))).f1.f2.f0.f5) ((rd_T71 x0 (wrap64 (x7 - 1))).f1.f2.f1.f0) ((rd_T71 x0 (wrap64 (x7 - 1))).f1.f2.f1.f1) ((rd_T71 x0 (wrap64 (x7 - 1))).f1.f2.f2.f0) ((rd_T71 x0 (wrap64 (x7 - 1))).f1.f2.f2.f1) ((rd_T71 x0 (wrap64 (x7 - 1))).f1.f2.f2.f2) ((rd_T71 x0 (wrap64 (x7 - 1))).f1.f2.f3.f0) ((rd_T71 x0 (wrap64 (x7 - 1))).f1.f2.f3.f1) ((rd_T71 x0 (wrap64 (x7 - 1))).f2) ((rd_T71 x0 (wrap64 (x7 - 1))).f3) ((rd_T71 x5 x7).f0) ((rd_T71 x5 x7).f1.f0.f0.f0) ((rd_T71 x5 x7).f1.f0.f0.f1) ((rd_T71 x5 x7).f1.f0.f0.f2) ((rd_T71 x5 x7).f1.f0.f0.f3) ((rd_T71 x5 x7).f1.f0.f0.f4) ((rd_T71 x5 x7).f1.f0.f0.f5) ((rd_T71 x5 x7).f1.f0.f1.f0) ((rd_T71 x5 x7).f1.f0.f1.f1) ((rd_T71 x5 x7).f1.f0.f2.f0) ((rd_T71 x5 x7).f1.f0.f2.f1) ((rd_T71 x5 x7).f1.f0.f2.f2) ((rd_T71 x5 x7).f1.f0.f3.f0) ((rd_T71 x5 x7).f1.f0.f3.f1) ((rd_T71 x5 x7).f1.f1) ((rd_T71 x5 x7).f1.f2.f0.f0) ((rd_T71 x5 x7).f1.f2.f0.f1) ((rd_T71 x5 x7).f1.f2.f0.f2) ((rd_T71 x5 x7).f1.f2.f0.f3) ((rd_T71 x5 x7).f1.f2.f0.f4) ((rd_T71 x5 x7).f1.f2.f0.f5) ((rd_T71 x5 x7).f1.f2.f1.f0) ((rd_T71 x5 x7).f1.f2.f1.f1) ((rd_T71 x5 x7).f1.f2.f2.f0) ((rd_T71 x5 x7).f1.f2.f2.f1) ((rd_T71 x5 x7).f1.f2.f2.f2) ((rd_T71 x5 x7).f1.f2.f3.f0) ((rd_T71 x5 x7).f1.f2.f3.f1) ((rd_T71 x5 x7).f2) ((rd_T71 x5 x7).f3)).bind fun t436 => (if t436 ≥ 0 then (some false) else (impl_AreEntries.l0 k x0 x5 x6 (wrap64 (x7 + 1))))) else (none)) else (none)) else (impl_AreEntries.l0 k x0 x5 x6 (wrap64 (x7 + 1)))) else (some false))) else (none)) else (none)) else (some (decide ((x0.length : Int) ≤ 16)))

def impl_AreEntries.f (k : Nat) (l0 : List (S71)) : Option (Bool) := impl_AreEntries.l0 k l0 l0 (l0.length : Int) 0

theorem impl_AreEntries.mono_l : ∀ k, (∀ y0 y1 y2 y3, LeO (impl_AreEntries.l0 k y0 y1 y2 y3) (impl_AreEntries.l0 (k + 1) y0 y1 y2 y3))
  | 0 => fun _ _ _ _ r h => by simp [impl_AreEntries.l0] at h
  | k + 1 => by
    have ih0 := impl_AreEntries.mono_l k
    · intro y0 y1 y2 y3
      unfold impl_AreEntries.l0
      repeat' first
      | (with_reducible exact ih0 _ _ _ _)
      | (with_reducible exact impl_compareEntries.mono _ _ _ _ _ _ _ _ _ _ _ _ _ _ _ _ _ _ _ _ _ _ _ _ _ _ _ _ _ _ _ _ _ _ _ _ _ _ _ _ _ _ _ _ _ _ _ _ _ _ _ _ _ _ _ _ _ _ _ _ _)
      | (with_reducible exact impl_isEntry.mono _ _ _ _ _ _ _ _ _ _ _ _ _ _ _ _ _ _ _ _ _ _ _ _ _ _ _ _ _ _ _)
      | (with_reducible exact LeO.refl _)
      | (with_reducible exact LeO.none _)
      | (with_reducible refine LeO.ite ?_ ?_)
      | (with_reducible refine LeO.bind ?_ (fun _ => ?_))
      | exact ih0 _ _ _ _
      | exact impl_compareEntries.mono _ _ _ _ _ _ _ _ _ _ _ _ _ _ _ _ _ _ _ _ _ _ _ _ _ _ _ _ _ _ _ _ _ _ _ _ _ _ _ _ _ _ _ _ _ _ _ _ _ _ _ _ _ _ _ _ _ _ _ _ _
      | exact impl_isEntry.mono _ _ _ _ _ _ _ _ _ _ _ _ _ _ _ _ _ _ _ _ _ _ _ _ _ _ _ _ _ _ _
      | exact LeO.none _
      | refine LeO.ite ?_ ?_
      | refine LeO.bind ?_ (fun _ => ?_)

theorem impl_AreEntries.mono : ∀ a0 k, LeO (impl_AreEntries.f k a0) (impl_AreEntries.f (k + 1) a0) := by
  intro a0 k
  have ih0 := impl_AreEntries.mono_l k
  unfold impl_AreEntries.f
  repeat' first
      | (with_reducible exact ih0 _ _ _ _)
      | (with_reducible exact impl_compareEntries.mono _ _ _ _ _ _ _ _ _ _ _ _ _ _ _ _ _ _ _ _ _ _ _ _ _ _ _ _ _ _ _ _ _ _ _ _ _ _ _ _ _ _ _ _ _ _ _ _ _ _ _ _ _ _ _ _ _ _ _ _ _)
      | (with_reducible exact impl_isEntry.mono _ _ _ _ _ _ _ _ _ _ _ _ _ _ _ _ _ _ _ _ _ _ _ _ _ _ _ _ _ _ _)
      | (with_reducible exact LeO.refl _)
      | (with_reducible exact LeO.none _)
      | (with_reducible refine LeO.ite ?_ ?_)
      | (with_reducible refine LeO.bind ?_ (fun _ => ?_))
      | exact ih0 _ _ _ _
      | exact impl_compareEntries.mono _ _ _ _ _ _ _ _ _ _ _ _ _ _ _ _ _ _ _ _ _ _ _ _ _ _ _ _ _ _ _ _ _ _ _ _ _ _ _ _ _ _ _ _ _ _ _ _ _ _ _ _ _ _ _ _ _ _ _ _ _
      | exact impl_isEntry.mono _ _ _ _ _ _ _ _ _ _ _ _ _ _ _ _ _ _ _ _ _ _ _ _ _ _ _ _ _ _ _
      | exact LeO.none _
      | refine LeO.ite ?_ ?_
      | refine LeO.bind ?_ (fun _ => ?_)

def impl_AreEntries.e (k : Nat) : Refl.Ent G := ⟨10, [(.c (.row 71 false))], .one (.c .bool), fun x => impl_AreEntries.f k x⟩
def impl_AreEntries.pl0 : Refl.Pn G (Refl.PT G (impl_AreEntries.e 0).ol) := ⟨true, 0, ⟨[(0, .v (.c (.row 71 false))), (5, .v (.c (.row 71 false))), (6, .v (.c li)), (7, .v (.c li)), (2, .k (Value.bool false))], []⟩, fun k x => impl_AreEntries.l0 k x.1 x.2.1 x.2.2.1 x.2.2.2⟩
theorem impl_AreEntries.ok (k : Nat) : Refl.EntOK Tryz.prog (impl_AreEntries.e k) := Refl.ent_ok 1000000 k GC (fun k => [impl_isEntry.e k, impl_compareEntries.e k]) (fun k => ⟨impl_isEntry.ok k, impl_compareEntries.ok k, trivial⟩) Tryz.func10 (by kernel_rfl) [impl_AreEntries.pl0] (ps := [impl_AreEntries.pl0]) (by kernel_rfl) ⟨⟨fun x => by kernel_rfl, fun k x => by kernel_rfl⟩, trivial⟩ (fun x => by kernel_rfl)

/-! ### laws_eqShape: function 151 -/

def laws_eqShape.f (a0_0 : Int) (a0_1 : Int) (a0_2 : Int) (a0_3 : Int) (a0_4 : Int) (a0_5 : Bool) (a1_0 : Int) (a1_1 : Int) (a1_2 : Int) (a1_3 : Int) (a1_4 : Int) (a1_5 : Bool) : Option (Bool) := if a0_0 = a1_0 then (if a0_1 = a1_1 then (if a0_2 = a1_2 then (if a0_3 = a1_3 then (if a0_4 = a1_4 then (if ((a0_5 == a1_5) = true) then (some true) else (some false)) else (some false)) else (some false)) else (some false)) else (some false)) else (some false)

def laws_eqShape.e (k : Nat) : Refl.Ent G := ⟨151, [(.agg [li, li, li, li, li, .bool]), (.agg [li, li, li, li, li, .bool])], .one (.c .bool), fun x => laws_eqShape.f x.1 x.2.1 x.2.2.1 x.2.2.2.1 x.2.2.2.2.1 x.2.2.2.2.2.1 x.2.2.2.2.2.2.1 x.2.2.2.2.2.2.2.1 x.2.2.2.2.2.2.2.2.1 x.2.2.2.2.2.2.2.2.2.1 x.2.2.2.2.2.2.2.2.2.2.1 x.2.2.2.2.2.2.2.2.2.2.2⟩
theorem laws_eqShape.ok (k : Nat) : Refl.EntOK Tryz.prog (laws_eqShape.e k) := Refl.ent_ok 1000000 k GC (fun k => []) (fun k => trivial) Tryz.func151 (by kernel_rfl) [] (ps := []) (by kernel_rfl) trivial (fun x => by kernel_rfl)

/-! ### laws_eqOrient: function 152 -/

def laws_eqOrient.f (a0_0 : Int) (a0_1 : Int) (a1_0 : Int) (a1_1 : Int) : Option (Bool) := if a0_0 = a1_0 then (if a0_1 = a1_1 then (some true) else (some false)) else (some false)

def laws_eqOrient.e (k : Nat) : Refl.Ent G := ⟨152, [(.agg [li, li]), (.agg [li, li])], .one (.c .bool), fun x => laws_eqOrient.f x.1 x.2.1 x.2.2.1 x.2.2.2⟩
theorem laws_eqOrient.ok (k : Nat) : Refl.EntOK Tryz.prog (laws_eqOrient.e k) := Refl.ent_ok 1000000 k GC (fun k => []) (fun k => trivial) Tryz.func152 (by kernel_rfl) [] (ps := []) (by kernel_rfl) trivial (fun x => by kernel_rfl)

/-! ### laws_eqPlace: function 153 -/

def laws_eqPlace.f (a0_0 : Int) (a0_1 : Int) (a0_2 : Bool) (a1_0 : Int) (a1_1 : Int) (a1_2 : Bool) : Option (Bool) := if a0_0 = a1_0 then (if a0_1 = a1_1 then (if ((a0_2 == a1_2) = true) then (some true) else (some false)) else (some false)) else (some false)

def laws_eqPlace.e (k : Nat) : Refl.Ent G := ⟨153, [(.agg [li, li, .bool]), (.agg [li, li, .bool])], .one (.c .bool), fun x => laws_eqPlace.f x.1 x.2.1 x.2.2.1 x.2.2.2.1 x.2.2.2.2.1 x.2.2.2.2.2⟩
theorem laws_eqPlace.ok (k : Nat) : Refl.EntOK Tryz.prog (laws_eqPlace.e k) := Refl.ent_ok 1000000 k GC (fun k => []) (fun k => trivial) Tryz.func153 (by kernel_rfl) [] (ps := []) (by kernel_rfl) trivial (fun x => by kernel_rfl)

/-! ### laws_eqMove: function 154 -/

def laws_eqMove.f (a0_0 : ByteArray) (a0_1 : Int) (a1_0 : ByteArray) (a1_1 : Int) : Option (Bool) := if a0_0.toList = a1_0.toList then (if a0_1 = a1_1 then (some true) else (some false)) else (some false)

def laws_eqMove.e (k : Nat) : Refl.Ent G := ⟨154, [(.agg [.str, li]), (.agg [.str, li])], .one (.c .bool), fun x => laws_eqMove.f x.1 x.2.1 x.2.2.1 x.2.2.2⟩
theorem laws_eqMove.ok (k : Nat) : Refl.EntOK Tryz.prog (laws_eqMove.e k) := Refl.ent_ok 1000000 k GC (fun k => []) (fun k => trivial) Tryz.func154 (by kernel_rfl) [] (ps := []) (by kernel_rfl) trivial (fun x => by kernel_rfl)

/-! ### laws_eqHand: function 110 -/

def laws_eqHand.f (a0_0 : Int) (a0_1 : Int) (a0_2 : Int) (a0_3 : Int) (a0_4 : Int) (a0_5 : Bool) (a0_6 : Int) (a0_7 : Int) (a0_8 : Int) (a0_9 : Int) (a0_10 : Bool) (a0_11 : ByteArray) (a0_12 : Int) (a1_0 : Int) (a1_1 : Int) (a1_2 : Int) (a1_3 : Int) (a1_4 : Int) (a1_5 : Bool) (a1_6 : Int) (a1_7 : Int) (a1_8 : Int) (a1_9 : Int) (a1_10 : Bool) (a1_11 : ByteArray) (a1_12 : Int) : Option (Bool) := (laws_eqShape.f a0_0 a0_1 a0_2 a0_3 a0_4 a0_5 a1_0 a1_1 a1_2 a1_3 a1_4 a1_5).bind fun t447 => (if t447 = true then ((laws_eqOrient.f a0_6 a0_7 a1_6 a1_7).bind fun t448 => (if t448 = true then ((laws_eqPlace.f a0_8 a0_9 a0_10 a1_8 a1_9 a1_10).bind fun t449 => (if t449 = true then ((laws_eqMove.f a0_11 a0_12 a1_11 a1_12).bind fun t450 => (if t450 = true then (some true) else (some false))) else (some false))) else (some false))) else (some false))

def laws_eqHand.e (k : Nat) : Refl.Ent G := ⟨110, [(.agg gL0), (.agg gL0)], .one (.c .bool), fun x => laws_eqHand.f x.1 x.2.1 x.2.2.1 x.2.2.2.1 x.2.2.2.2.1 x.2.2.2.2.2.1 x.2.2.2.2.2.2.1 x.2.2.2.2.2.2.2.1 x.2.2.2.2.2.2.2.2.1 x.2.2.2.2.2.2.2.2.2.1 x.2.2.2.2.2.2.2.2.2.2.1 x.2.2.2.2.2.2.2.2.2.2.2.1 x.2.2.2.2.2.2.2.2.2.2.2.2.1 x.2.2.2.2.2.2.2.2.2.2.2.2.2.1 x.2.2.2.2.2.2.2.2.2.2.2.2.2.2.1 x.2.2.2.2.2.2.2.2.2.2.2.2.2.2.2.1 x.2.2.2.2.2.2.2.2.2.2.2.2.2.2.2.2.1 x.2.2.2.2.2.2.2.2.2.2.2.2.2.2.2.2.2.1 x.2.2.2.2.2.2.2.2.2.2.2.2.2.2.2.2.2.2.1 x.2.2.2.2.2.2.2.2.2.2.2.2.2.2.2.2.2.2.2.1 x.2.2.2.2.2.2.2.2.2.2.2.2.2.2.2.2.2.2.2.2.1 x.2.2.2.2.2.2.2.2.2.2.2.2.2.2.2.2.2.2.2.2.2.1 x.2.2.2.2.2.2.2.2.2.2.2.2.2.2.2.2.2.2.2.2.2.2.1 x.2.2.2.2.2.2.2.2.2.2.2.2.2.2.2.2.2.2.2.2.2.2.2.1 x.2.2.2.2.2.2.2.2.2.2.2.2.2.2.2.2.2.2.2.2.2.2.2.2.1 x.2.2.2.2.2.2.2.2.2.2.2.2.2.2.2.2.2.2.2.2.2.2.2.2.2⟩
theorem laws_eqHand.ok (k : Nat) : Refl.EntOK Tryz.prog (laws_eqHand.e k) := Refl.ent_ok 1000000 k GC (fun k => [laws_eqShape.e k, laws_eqOrient.e k, laws_eqPlace.e k, laws_eqMove.e k]) (fun k => ⟨laws_eqShape.ok k, laws_eqOrient.ok k, laws_eqPlace.ok k, laws_eqMove.ok k, trivial⟩) Tryz.func110 (by kernel_rfl) [] (ps := []) (by kernel_rfl) trivial (fun x => by kernel_rfl)

/-! ### laws_eqSign: function 69 -/

def laws_eqSign.f (a0_0 : Int) (a0_1 : Int) (a0_2 : Int) (a0_3 : Int) (a0_4 : Int) (a0_5 : Bool) (a0_6 : Int) (a0_7 : Int) (a0_8 : Int) (a0_9 : Int) (a0_10 : Bool) (a0_11 : ByteArray) (a0_12 : Int) (a0_13 : Bool) (a0_14 : Int) (a0_15 : Int) (a0_16 : Int) (a0_17 : Int) (a0_18 : Int) (a0_19 : Bool) (a0_20 : Int) (a0_21 : Int) (a0_22 : Int) (a0_23 : Int) (a0_24 : Bool) (a0_25 : ByteArray) (a0_26 : Int) (a1_0 : Int) (a1_1 : Int) (a1_2 : Int) (a1_3 : Int) (a1_4 : Int) (a1_5 : Bool) (a1_6 : Int) (a1_7 : Int) (a1_8 : Int) (a1_9 : Int) (a1_10 : Bool) (a1_11 : ByteArray) (a1_12 : Int) (a1_13 : Bool) (a1_14 : Int) (a1_15 : Int) (a1_16 : Int) (a1_17 : Int) (a1_18 : Int) (a1_19 : Bool) (a1_20 : Int) (a1_21 : Int) (a1_22 : Int) (a1_23 : Int) (a1_24 : Bool) (a1_25 : ByteArray) (a1_26 : Int) : Option (Bool) := (laws_eqHand.f a0_0 a0_1 a0_2 a0_3 a0_4 a0_5 a0_6 a0_7 a0_8 a0_9 a0_10 a0_11 a0_12 a1_0 a1_1 a1_2 a1_3 a1_4 a1_5 a1_6 a1_7 a1_8 a1_9 a1_10 a1_11 a1_12).bind fun t453 => (if t453 = true then (if ((a0_13 == a1_13) = true) then ((laws_eqHand.f a0_14 a0_15 a0_16 a0_17 a0_18 a0_19 a0_20 a0_21 a0_22 a0_23 a0_24 a0_25 a0_26 a1_14 a1_15 a1_16 a1_17 a1_18 a1_19 a1_20 a1_21 a1_22 a1_23 a1_24 a1_25 a1_26).bind fun t454 => (if t454 = true then (some true) else (some false))) else (some false)) else (some false))

def laws_eqSign.e (k : Nat) : Refl.Ent G := ⟨69, [(.agg gL1), (.agg gL1)], .one (.c .bool), fun x => laws_eqSign.f x.1 x.2.1 x.2.2.1 x.2.2.2.1 x.2.2.2.2.1 x.2.2.2.2.2.1 x.2.2.2.2.2.2.1 x.2.2.2.2.2.2.2.1 x.2.2.2.2.2.2.2.2.1 x.2.2.2.2.2.2.2.2.2.1 x.2.2.2.2.2.2.2.2.2.2.1 x.2.2.2.2.2.2.2.2.2.2.2.1 x.2.2.2.2.2.2.2.2.2.2.2.2.1 x.2.2.2.2.2.2.2.2.2.2.2.2.2.1 x.2.2.2.2.2.2.2.2.2.2.2.2.2.2.1 x.2.2.2.2.2.2.2.2.2.2.2.2.2.2.2.1 x.2.2.2.2.2.2.2.2.2.2.2.2.2.2.2.2.1 x.2.2.2.2.2.2.2.2.2.2.2.2.2.2.2.2.2.1 x.2.2.2.2.2.2.2.2.2.2.2.2.2.2.2.2.2.2.1 x.2.2.2.2.2.2.2.2.2.2.2.2.2.2.2.2.2.2.2.1 x.2.2.2.2.2.2.2.2.2.2.2.2.2.2.2.2.2.2.2.2.1 x.2.2.2.2.2.2.2.2.2.2.2.2.2.2.2.2.2.2.2.2.2.1 x.2.2.2.2.2.2.2.2.2.2.2.2.2.2.2.2.2.2.2.2.2.2.1 x.2.2.2.2.2.2.2.2.2.2.2.2.2.2.2.2.2.2.2.2.2.2.2.1 x.2.2.2.2.2.2.2.2.2.2.2.2.2.2.2.2.2.2.2.2.2.2.2.2.1 x.2.2.2.2.2.2.2.2.2.2.2.2.2.2.2.2.2.2.2.2.2.2.2.2.2.1 x.2.2.2.2.2.2.2.2.2.2.2.2.2.2.2.2.2.2.2.2.2.2.2.2.2.2.1 x.2.2.2.2.2.2.2.2.2.2.2.2.2.2.2.2.2.2.2.2.2.2.2.2.2.2.2.1 x.2.2.2.2.2.2.2.2.2.2.2.2.2.2.2.2.2.2.2.2.2.2.2.2.2.2.2.2.1 x.2.2.2.2.2.2.2.2.2.2.2.2.2.2.2.2.2.2.2.2.2.2.2.2.2.2.2.2.2.1 x.2.2.2.2.2.2.2.2.2.2.2.2.2.2.2.2.2.2.2.2.2.2.2.2.2.2.2.2.2.2.1 x.2.2.2.2.2.2.2.2.2.2.2.2.2.2.2.2.2.2.2.2.2.2.2.2.2.2.2.2.2.2.2.1 x.2.2.2.2.2.2.2.2.2.2.2.2.2.2.2.2.2.2.2.2.2.2.2.2.2.2.2.2.2.2.2.2.1 x.2.2.2.2.2.2.2.2.2.2.2.2.2.2.2.2.2.2.2.2.2.2.2.2.2.2.2.2.2.2.2.2.2.1 x.2.2.2.2.2.2.2.2.2.2.2.2.2.2.2.2.2.2.2.2.2.2.2.2.2.2.2.2.2.2.2.2.2.2.1 x.2.2.2.2.2.2.2.2.2.2.2.2.2.2.2.2.2.2.2.2.2.2.2.2.2.2.2.2.2.2.2.2.2.2.2.1 x.2.2.2.2.2.2.2.2.2.2.2.2.2.2.2.2.2.2.2.2.2.2.2.2.2.2.2.2.2.2.2.2.2.2.2.2.1 x.2.2.2.2.2.2.2.2.2.2.2.2.2.2.2.2.2.2.2.2.2.2.2.2.2.2.2.2.2.2.2.2.2.2.2.2.2.1 x.2.2.2.2.2.2.2.2.2.2.2.2.2.2.2.2.2.2.2.2.2.2.2.2.2.2.2.2.2.2.2.2.2.2.2.2.2.2.1 x.2.2.2.2.2.2.2.2.2.2.2.2.2.2.2.2.2.2.2.2.2.2.2.2.2.2.2.2.2.2.2.2.2.2.2.2.2.2.2.1 x.2.2.2.2.2.2.2.2.2.2.2.2.2.2.2.2.2.2.2.2.2.2.2.2.2.2.2.2.2.2.2.2.2.2.2.2.2.2.2.2.1 x.2.2.2.2.2.2.2.2.2.2.2.2.2.2.2.2.2.2.2.2.2.2.2.2.2.2.2.2.2.2.2.2.2.2.2.2.2.2.2.2.2.1 x.2.2.2.2.2.2.2.2.2.2.2.2.2.2.2.2.2.2.2.2.2.2.2.2.2.2.2.2.2.2.2.2.2.2.2.2.2.2.2.2.2.2.1 x.2.2.2.2.2.2.2.2.2.2.2.2.2.2.2.2.2.2.2.2.2.2.2.2.2.2.2.2.2.2.2.2.2.2.2.2.2.2.2.2.2.2.2.1 x.2.2.2.2.2.2.2.2.2.2.2.2.2.2.2.2.2.2.2.2.2.2.2.2.2.2.2.2.2.2.2.2.2.2.2.2.2.2.2.2.2.2.2.2.1 x.2.2.2.2.2.2.2.2.2.2.2.2.2.2.2.2.2.2.2.2.2.2.2.2.2.2.2.2.2.2.2.2.2.2.2.2.2.2.2.2.2.2.2.2.2.1 x.2.2.2.2.2.2.2.2.2.2.2.2.2.2.2.2.2.2.2.2.2.2.2.2.2.2.2.2.2.2.2.2.2.2.2.2.2.2.2.2.2.2.2.2.2.2.1 x.2.2.2.2.2.2.2.2.2.2.2.2.2.2.2.2.2.2.2.2.2.2.2.2.2.2.2.2.2.2.2.2.2.2.2.2.2.2.2.2.2.2.2.2.2.2.2.1 x.2.2.2.2.2.2.2.2.2.2.2.2.2.2.2.2.2.2.2.2.2.2.2.2.2.2.2.2.2.2.2.2.2.2.2.2.2.2.2.2.2.2.2.2.2.2.2.2.1 x.2.2.2.2.2.2.2.2.2.2.2.2.2.2.2.2.2.2.2.2.2.2.2.2.2.2.2.2.2.2.2.2.2.2.2.2.2.2.2.2.2.2.2.2.2.2.2.2.2.1 x.2.2.2.2.2.2.2.2.2.2.2.2.2.2.2.2.2.2.2.2.2.2.2.2.2.2.2.2.2.2.2.2.2.2.2.2.2.2.2.2.2.2.2.2.2.2.2.2.2.2.1 x.2.2.2.2.2.2.2.2.2.2.2.2.2.2.2.2.2.2.2.2.2.2.2.2.2.2.2.2.2.2.2.2.2.2.2.2.2.2.2.2.2.2.2.2.2.2.2.2.2.2.2.1 x.2.2.2.2.2.2.2.2.2.2.2.2.2.2.2.2.2.2.2.2.2.2.2.2.2.2.2.2.2.2.2.2.2.2.2.2.2.2.2.2.2.2.2.2.2.2.2.2.2.2.2.2.1 x.2.2.2.2.2.2.2.2.2.2.2.2.2.2.2.2.2.2.2.2.2.2.2.2.2.2.2.2.2.2.2.2.2.2.2.2.2.2.2.2.2.2.2.2.2.2.2.2.2.2.2.2.2⟩
theorem laws_eqSign.ok (k : Nat) : Refl.EntOK Tryz.prog (laws_eqSign.e k) := Refl.ent_ok 1000000 k GC (fun k => [laws_eqHand.e k]) (fun k => ⟨laws_eqHand.ok k, trivial⟩) Tryz.func69 (by kernel_rfl) [] (ps := []) (by kernel_rfl) trivial (fun x => by kernel_rfl)

end Go.Proofs.YtaaldnaefdodkaaGreatDoor.PA
