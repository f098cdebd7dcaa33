-- Written by a program of this session (wip/tools/myprint.py). Not trusted: Lean checks it.
import Derived.Test.YtmbffgkejknfaaaGreatDoorCtx
import Derived.Test.YtmbffgkejknfaaaGreatDoorPAx1
import Derived.Test.YtmbffgkejknfaaaGreatDoorPAx4
import Derived.Test.YtmbffgkejknfaaaGreatDoorPAx5
import Derived.Test.YtmbffgkejknfaaaGreatDoorPAx6
import Derived.Test.YtmbffgkejknfaaaGreatDoorPAx7
namespace Go.Proofs.YtmbffgkejknfaaaGreatDoor.PA
open Go.RowKit Go.Proofs.YtmbffgkejknfaaaGreatDoorW.PrintWords Go.Proofs.YtmbffgkejknfaaaGreatDoorW.PrintLast Go.Proofs.YtmbffgkejknfaaaGreatDoorW.PrintMore
attribute [local go_sem] max2_int min2_int max_two min_two max_three min_three max_four min_four   -- for this text's walks alone
set_option linter.unusedVariables false
set_option linter.unusedSimpArgs false

attribute [local go_sem high] eqA37
/-! ### spec_ruMost: function 59 -/

def spec_ruMost.f (a0 : Int) : Option (Int) := (some (([18, 9, 4, 3, 9] : List Int) : List Int)).bind fun y475 => (if 0 ≤ a0 then (if a0 < (y475.length : Int) then (some (rd y475 a0)) else (none)) else (none))

def spec_ruMost.e (k : Nat) : Refl.Ent G := ⟨59, [(.c li)], .one (.c li), fun x => spec_ruMost.f x⟩
theorem spec_ruMost.ok (k : Nat) : Refl.EntOK Tryz.prog (spec_ruMost.e k) := Refl.ent_ok 1000000 k GC (fun k => []) (fun k => trivial) Tryz.func59 (by kernel_rfl) [] (ps := []) (by kernel_rfl) trivial (fun x => by kernel_rfl)

/-! ### spec_ruGood: function 33 -/

def spec_ruGood.f (a0_0 : Int) (a0_1 : Int) : Option (Bool) := (spec_l1In.f a0_0 0 4).bind fun t480 => (if t480 = true then ((spec_ruMost.f a0_0).bind fun t481 => ((spec_l1In.f a0_1 0 t481).bind fun t482 => (if t482 = true then (if a0_0 = 3 then ((spec_l1In.f a0_1 0 3).bind fun t483 => (some t483)) else (some true)) else (some false)))) else (some false))

def spec_ruGood.e (k : Nat) : Refl.Ent G := ⟨33, [(.agg [li, li])], .one (.c .bool), fun x => spec_ruGood.f x.1 x.2⟩
theorem spec_ruGood.ok (k : Nat) : Refl.EntOK Tryz.prog (spec_ruGood.e k) := Refl.ent_ok 1000000 k GC (fun k => [spec_l1In.e k, spec_ruMost.e k]) (fun k => ⟨spec_l1In.ok k, spec_ruMost.ok k, trivial⟩) Tryz.func33 (by kernel_rfl) [] (ps := []) (by kernel_rfl) trivial (fun x => by kernel_rfl)

/-! ### spec_ruSteps: function 60 -/

def spec_ruSteps.f (k : Nat) (a0_0 : Int) (a0_1 : Int) (a0_2 : Int) (a0_3 : Int) (a0_4 : Int) (a0_5 : Bool) (a0_6 : Int) (a0_7 : Int) (a0_8 : Int) (a0_9 : Int) (a0_10 : Bool) (a0_11 : ByteArray) (a0_12 : Int) (a0_13 : Bool) (a0_14 : Int) (a0_15 : Int) (a0_16 : Int) (a0_17 : Int) (a0_18 : Int) (a0_19 : Bool) (a0_20 : Int) (a0_21 : Int) (a0_22 : Int) (a0_23 : Int) (a0_24 : Bool) (a0_25 : ByteArray) (a0_26 : Int) : Option (Int) := (spec_mvAll.f k a0_11 a0_12).bind fun t485 => ((spec_mvAll.f k a0_25 a0_26).bind fun t486 => ((spec_l1Most.f (t485.size : Int) (t486.size : Int)).bind fun t487 => (some t487)))

theorem spec_ruSteps.mono : ∀ a0 a1 a2 a3 a4 a5 a6 a7 a8 a9 a10 a11 a12 a13 a14 a15 a16 a17 a18 a19 a20 a21 a22 a23 a24 a25 a26 k, LeO (spec_ruSteps.f k a0 a1 a2 a3 a4 a5 a6 a7 a8 a9 a10 a11 a12 a13 a14 a15 a16 a17 a18 a19 a20 a21 a22 a23 a24 a25 a26) (spec_ruSteps.f (k + 1) a0 a1 a2 a3 a4 a5 a6 a7 a8 a9 a10 a11 a12 a13 a14 a15 a16 a17 a18 a19 a20 a21 a22 a23 a24 a25 a26) := by
  intro a0 a1 a2 a3 a4 a5 a6 a7 a8 a9 a10 a11 a12 a13 a14 a15 a16 a17 a18 a19 a20 a21 a22 a23 a24 a25 a26 k
  unfold spec_ruSteps.f
  repeat' first
      | (with_reducible exact spec_mvAll.mono _ _ _)
      | (with_reducible exact LeO.refl _)
      | (with_reducible exact LeO.none _)
      | (with_reducible refine LeO.ite ?_ ?_)
      | (with_reducible refine LeO.bind ?_ (fun _ => ?_))
      | exact spec_mvAll.mono _ _ _
      | exact LeO.none _
      | refine LeO.ite ?_ ?_
      | refine LeO.bind ?_ (fun _ => ?_)

def spec_ruSteps.e (k : Nat) : Refl.Ent G := ⟨60, [(.agg gL1)], .one (.c li), fun x => spec_ruSteps.f k x.1 x.2.1 x.2.2.1 x.2.2.2.1 x.2.2.2.2.1 x.2.2.2.2.2.1 x.2.2.2.2.2.2.1 x.2.2.2.2.2.2.2.1 x.2.2.2.2.2.2.2.2.1 x.2.2.2.2.2.2.2.2.2.1 x.2.2.2.2.2.2.2.2.2.2.1 x.2.2.2.2.2.2.2.2.2.2.2.1 x.2.2.2.2.2.2.2.2.2.2.2.2.1 x.2.2.2.2.2.2.2.2.2.2.2.2.2.1 x.2.2.2.2.2.2.2.2.2.2.2.2.2.2.1 x.2.2.2.2.2.2.2.2.2.2.2.2.2.2.2.1 x.2.2.2.2.2.2.2.2.2.2.2.2.2.2.2.2.1 x.2.2.2.2.2.2.2.2.2.2.2.2.2.2.2.2.2.1 x.2.2.2.2.2.2.2.2.2.2.2.2.2.2.2.2.2.2.1 x.2.2.2.2.2.2.2.2.2.2.2.2.2.2.2.2.2.2.2.1 x.2.2.2.2.2.2.2.2.2.2.2.2.2.2.2.2.2.2.2.2.1 x.2.2.2.2.2.2.2.2.2.2.2.2.2.2.2.2.2.2.2.2.2.1 x.2.2.2.2.2.2.2.2.2.2.2.2.2.2.2.2.2.2.2.2.2.2.1 x.2.2.2.2.2.2.2.2.2.2.2.2.2.2.2.2.2.2.2.2.2.2.2.1 x.2.2.2.2.2.2.2.2.2.2.2.2.2.2.2.2.2.2.2.2.2.2.2.2.1 x.2.2.2.2.2.2.2.2.2.2.2.2.2.2.2.2.2.2.2.2.2.2.2.2.2.1 x.2.2.2.2.2.2.2.2.2.2.2.2.2.2.2.2.2.2.2.2.2.2.2.2.2.2⟩
theorem spec_ruSteps.ok (k : Nat) : Refl.EntOK Tryz.prog (spec_ruSteps.e k) := Refl.ent_ok 1000000 k GC (fun k => [spec_mvAll.e k, spec_l1Most.e k]) (fun k => ⟨spec_mvAll.ok k, spec_l1Most.ok k, trivial⟩) Tryz.func60 (by kernel_rfl) [] (ps := []) (by kernel_rfl) trivial (fun x => by kernel_rfl)

/-! ### spec_ruOpen: function 61 -/

def spec_ruOpen.l0 : Nat → Int → List Int → Int → Int → Option (Int)
  | 0, _, _, _, _ => none
  | k + 1, x3, x9, x10, x11 => if x11 < x10 then (if 0 ≤ x11 then (if x11 < (x9.length : Int) then (if (rd x9 x11) = 0 then (spec_ruOpen.l0 k (wrap64 (x3 + 1)) x9 x10 (wrap64 (x11 + 1))) else (spec_ruOpen.l0 k x3 x9 x10 (wrap64 (x11 + 1)))) else (none)) else (none)) else (some x3)

def spec_ruOpen.f (k : Nat) (a0_0 : Int) (a0_1 : Int) (a0_2 : Int) (a0_3 : Int) (a0_4 : Int) (a0_5 : Bool) (a0_6 : Int) (a0_7 : Int) (a0_8 : Int) (a0_9 : Int) (a0_10 : Bool) (a0_11 : ByteArray) (a0_12 : Int) (a0_13 : Bool) (a0_14 : Int) (a0_15 : Int) (a0_16 : Int) (a0_17 : Int) (a0_18 : Int) (a0_19 : Bool) (a0_20 : Int) (a0_21 : Int) (a0_22 : Int) (a0_23 : Int) (a0_24 : Bool) (a0_25 : ByteArray) (a0_26 : Int) : Option (Int) := (spec_shFingers.f a0_0 a0_1 a0_2 a0_3 a0_4 a0_5).bind fun t489 => (spec_ruOpen.l0 k 0 t489 (t489.length : Int) 0)

theorem spec_ruOpen.mono_l : ∀ k, (∀ y0 y1 y2 y3, LeO (spec_ruOpen.l0 k y0 y1 y2 y3) (spec_ruOpen.l0 (k + 1) y0 y1 y2 y3))
  | 0 => fun _ _ _ _ r h => by simp [spec_ruOpen.l0] at h
  | k + 1 => by
    have ih0 := spec_ruOpen.mono_l k
    · intro y0 y1 y2 y3
      unfold spec_ruOpen.l0
      repeat' first
      | (with_reducible exact ih0 _ _ _ _)
      | (with_reducible exact LeO.refl _)
      | (with_reducible exact LeO.none _)
      | (with_reducible refine LeO.ite ?_ ?_)
      | (with_reducible refine LeO.bind ?_ (fun _ => ?_))
      | exact ih0 _ _ _ _
      | exact LeO.none _
      | refine LeO.ite ?_ ?_
      | refine LeO.bind ?_ (fun _ => ?_)

theorem spec_ruOpen.mono : ∀ a0 a1 a2 a3 a4 a5 a6 a7 a8 a9 a10 a11 a12 a13 a14 a15 a16 a17 a18 a19 a20 a21 a22 a23 a24 a25 a26 k, LeO (spec_ruOpen.f k a0 a1 a2 a3 a4 a5 a6 a7 a8 a9 a10 a11 a12 a13 a14 a15 a16 a17 a18 a19 a20 a21 a22 a23 a24 a25 a26) (spec_ruOpen.f (k + 1) a0 a1 a2 a3 a4 a5 a6 a7 a8 a9 a10 a11 a12 a13 a14 a15 a16 a17 a18 a19 a20 a21 a22 a23 a24 a25 a26) := by
  intro a0 a1 a2 a3 a4 a5 a6 a7 a8 a9 a10 a11 a12 a13 a14 a15 a16 a17 a18 a19 a20 a21 a22 a23 a24 a25 a26 k
  have ih0 := spec_ruOpen.mono_l k
  unfold spec_ruOpen.f
  repeat' first
      | (with_reducible exact ih0 _ _ _ _)
      | (with_reducible exact LeO.refl _)
      | (with_reducible exact LeO.none _)
      | (with_reducible refine LeO.ite ?_ ?_)
      | (with_reducible refine LeO.bind ?_ (fun _ => ?_))
      | exact ih0 _ _ _ _
      | exact LeO.none _
      | refine LeO.ite ?_ ?_
      | refine LeO.bind ?_ (fun _ => ?_)

def spec_ruOpen.e (k : Nat) : Refl.Ent G := ⟨61, [(.agg gL1)], .one (.c li), fun x => spec_ruOpen.f k x.1 x.2.1 x.2.2.1 x.2.2.2.1 x.2.2.2.2.1 x.2.2.2.2.2.1 x.2.2.2.2.2.2.1 x.2.2.2.2.2.2.2.1 x.2.2.2.2.2.2.2.2.1 x.2.2.2.2.2.2.2.2.2.1 x.2.2.2.2.2.2.2.2.2.2.1 x.2.2.2.2.2.2.2.2.2.2.2.1 x.2.2.2.2.2.2.2.2.2.2.2.2.1 x.2.2.2.2.2.2.2.2.2.2.2.2.2.1 x.2.2.2.2.2.2.2.2.2.2.2.2.2.2.1 x.2.2.2.2.2.2.2.2.2.2.2.2.2.2.2.1 x.2.2.2.2.2.2.2.2.2.2.2.2.2.2.2.2.1 x.2.2.2.2.2.2.2.2.2.2.2.2.2.2.2.2.2.1 x.2.2.2.2.2.2.2.2.2.2.2.2.2.2.2.2.2.2.1 x.2.2.2.2.2.2.2.2.2.2.2.2.2.2.2.2.2.2.2.1 x.2.2.2.2.2.2.2.2.2.2.2.2.2.2.2.2.2.2.2.2.1 x.2.2.2.2.2.2.2.2.2.2.2.2.2.2.2.2.2.2.2.2.2.1 x.2.2.2.2.2.2.2.2.2.2.2.2.2.2.2.2.2.2.2.2.2.2.1 x.2.2.2.2.2.2.2.2.2.2.2.2.2.2.2.2.2.2.2.2.2.2.2.1 x.2.2.2.2.2.2.2.2.2.2.2.2.2.2.2.2.2.2.2.2.2.2.2.2.1 x.2.2.2.2.2.2.2.2.2.2.2.2.2.2.2.2.2.2.2.2.2.2.2.2.2.1 x.2.2.2.2.2.2.2.2.2.2.2.2.2.2.2.2.2.2.2.2.2.2.2.2.2.2⟩
def spec_ruOpen.pl0 : Refl.Pn G (Refl.PT G (spec_ruOpen.e 0).res.ls) := ⟨true, 0, ⟨[(3, .v (.c li)), (9, .v (.c (.row 3 false))), (10, .v (.c li)), (11, .v (.c li)), (2, .k (Value.int IntKind.i64 0))], []⟩, fun k x => spec_ruOpen.l0 k x.1 x.2.1 x.2.2.1 x.2.2.2⟩
theorem spec_ruOpen.ok (k : Nat) : Refl.EntOK Tryz.prog (spec_ruOpen.e k) := Refl.ent_ok 1000000 k GC (fun k => [spec_shFingers.e k]) (fun k => ⟨spec_shFingers.ok k, trivial⟩) Tryz.func61 (by kernel_rfl) [spec_ruOpen.pl0] (ps := [spec_ruOpen.pl0]) (by kernel_rfl) ⟨⟨fun x => by kernel_rfl, fun k x => by kernel_rfl⟩, trivial⟩ (fun x => by kernel_rfl)

/-! ### spec_siKind: function 62 -/

def spec_siKind.f (a0_0 : Int) (a0_1 : Int) (a0_2 : Int) (a0_3 : Int) (a0_4 : Int) (a0_5 : Bool) (a0_6 : Int) (a0_7 : Int) (a0_8 : Int) (a0_9 : Int) (a0_10 : Bool) (a0_11 : ByteArray) (a0_12 : Int) (a0_13 : Bool) (a0_14 : Int) (a0_15 : Int) (a0_16 : Int) (a0_17 : Int) (a0_18 : Int) (a0_19 : Bool) (a0_20 : Int) (a0_21 : Int) (a0_22 : Int) (a0_23 : Int) (a0_24 : Bool) (a0_25 : ByteArray) (a0_26 : Int) : Option (Int) := if a0_13 = true then (if a0_25.toList = ([] : List UInt8) then (if (a0_0 == a0_14 && (a0_1 == a0_15 && (a0_2 == a0_16 && (a0_3 == a0_17 && (a0_4 == a0_18 && (a0_5 == a0_19)))))) = true then (some 2) else (some 3)) else (some 1)) else (some 0)

def spec_siKind.e (k : Nat) : Refl.Ent G := ⟨62, [(.agg gL1)], .one (.c li), fun x => spec_siKind.f x.1 x.2.1 x.2.2.1 x.2.2.2.1 x.2.2.2.2.1 x.2.2.2.2.2.1 x.2.2.2.2.2.2.1 x.2.2.2.2.2.2.2.1 x.2.2.2.2.2.2.2.2.1 x.2.2.2.2.2.2.2.2.2.1 x.2.2.2.2.2.2.2.2.2.2.1 x.2.2.2.2.2.2.2.2.2.2.2.1 x.2.2.2.2.2.2.2.2.2.2.2.2.1 x.2.2.2.2.2.2.2.2.2.2.2.2.2.1 x.2.2.2.2.2.2.2.2.2.2.2.2.2.2.1 x.2.2.2.2.2.2.2.2.2.2.2.2.2.2.2.1 x.2.2.2.2.2.2.2.2.2.2.2.2.2.2.2.2.1 x.2.2.2.2.2.2.2.2.2.2.2.2.2.2.2.2.2.1 x.2.2.2.2.2.2.2.2.2.2.2.2.2.2.2.2.2.2.1 x.2.2.2.2.2.2.2.2.2.2.2.2.2.2.2.2.2.2.2.1 x.2.2.2.2.2.2.2.2.2.2.2.2.2.2.2.2.2.2.2.2.1 x.2.2.2.2.2.2.2.2.2.2.2.2.2.2.2.2.2.2.2.2.2.1 x.2.2.2.2.2.2.2.2.2.2.2.2.2.2.2.2.2.2.2.2.2.2.1 x.2.2.2.2.2.2.2.2.2.2.2.2.2.2.2.2.2.2.2.2.2.2.2.1 x.2.2.2.2.2.2.2.2.2.2.2.2.2.2.2.2.2.2.2.2.2.2.2.2.1 x.2.2.2.2.2.2.2.2.2.2.2.2.2.2.2.2.2.2.2.2.2.2.2.2.2.1 x.2.2.2.2.2.2.2.2.2.2.2.2.2.2.2.2.2.2.2.2.2.2.2.2.2.2⟩
theorem spec_siKind.ok (k : Nat) : Refl.EntOK Tryz.prog (spec_siKind.e k) := Refl.ent_ok 1000000 k GC (fun k => []) (fun k => trivial) Tryz.func62 (by kernel_rfl) [] (ps := []) (by kernel_rfl) trivial (fun x => by kernel_rfl)

/-! ### spec_ruKeeps: function 34 -/

def spec_ruKeeps.f (k : Nat) (a0_0 : Int) (a0_1 : Int) (a0_2 : Int) (a0_3 : Int) (a0_4 : Int) (a0_5 : Bool) (a0_6 : Int) (a0_7 : Int) (a0_8 : Int) (a0_9 : Int) (a0_10 : Bool) (a0_11 : ByteArray) (a0_12 : Int) (a0_13 : Bool) (a0_14 : Int) (a0_15 : Int) (a0_16 : Int) (a0_17 : Int) (a0_18 : Int) (a0_19 : Bool) (a0_20 : Int) (a0_21 : Int) (a0_22 : Int) (a0_23 : Int) (a0_24 : Bool) (a0_25 : ByteArray) (a0_26 : Int) (a1_0 : Int) (a1_1 : Int) : Option (Bool) := if a1_0 = 0 then ((spec_ruSteps.f k a0_0 a0_1 a0_2 a0_3 a0_4 a0_5 a0_6 a0_7 a0_8 a0_9 a0_10 a0_11 a0_12 a0_13 a0_14 a0_15 a0_16 a0_17 a0_18 a0_19 a0_20 a0_21 a0_22 a0_23 a0_24 a0_25 a0_26).bind fun t496 => (some (decide (t496 ≤ a1_1)))) else (if a1_0 = 1 then (if a0_8 = a1_1 then (some false) else (if a0_13 = true then (some (a0_22 != a1_1)) else (some true))) else (if a1_0 = 2 then ((spec_ruOpen.f k a0_0 a0_1 a0_2 a0_3 a0_4 a0_5 a0_6 a0_7 a0_8 a0_9 a0_10 a0_11 a0_12 a0_13 a0_14 a0_15 a0_16 a0_17 a0_18 a0_19 a0_20 a0_21 a0_22 a0_23 a0_24 a0_25 a0_26).bind fun t497 => (some (decide (t497 ≥ a1_1)))) else (if a1_0 = 3 then ((spec_siKind.f a0_0 a0_1 a0_2 a0_3 a0_4 a0_5 a0_6 a0_7 a0_8 a0_9 a0_10 a0_11 a0_12 a0_13 a0_14 a0_15 a0_16 a0_17 a0_18 a0_19 a0_20 a0_21 a0_22 a0_23 a0_24 a0_25 a0_26).bind fun t498 => (some (t498 != a1_1))) else (some (decide (a0_8 ≤ a1_1))))))

theorem spec_ruKeeps.mono : ∀ a0 a1 a2 a3 a4 a5 a6 a7 a8 a9 a10 a11 a12 a13 a14 a15 a16 a17 a18 a19 a20 a21 a22 a23 a24 a25 a26 a27 a28 k, LeO (spec_ruKeeps.f k a0 a1 a2 a3 a4 a5 a6 a7 a8 a9 a10 a11 a12 a13 a14 a15 a16 a17 a18 a19 a20 a21 a22 a23 a24 a25 a26 a27 a28) (spec_ruKeeps.f (k + 1) a0 a1 a2 a3 a4 a5 a6 a7 a8 a9 a10 a11 a12 a13 a14 a15 a16 a17 a18 a19 a20 a21 a22 a23 a24 a25 a26 a27 a28) := by
  intro a0 a1 a2 a3 a4 a5 a6 a7 a8 a9 a10 a11 a12 a13 a14 a15 a16 a17 a18 a19 a20 a21 a22 a23 a24 a25 a26 a27 a28 k
  unfold spec_ruKeeps.f
  repeat' first
      | (with_reducible exact spec_ruOpen.mono _ _ _ _ _ _ _ _ _ _ _ _ _ _ _ _ _ _ _ _ _ _ _ _ _ _ _ _)
      | (with_reducible exact spec_ruSteps.mono _ _ _ _ _ _ _ _ _ _ _ _ _ _ _ _ _ _ _ _ _ _ _ _ _ _ _ _)
      | (with_reducible exact LeO.refl _)
      | (with_reducible exact LeO.none _)
      | (with_reducible refine LeO.ite ?_ ?_)
      | (with_reducible refine LeO.bind ?_ (fun _ => ?_))
      | exact spec_ruOpen.mono _ _ _ _ _ _ _ _ _ _ _ _ _ _ _ _ _ _ _ _ _ _ _ _ _ _ _ _
      | exact spec_ruSteps.mono _ _ _ _ _ _ _ _ _ _ _ _ _ _ _ _ _ _ _ _ _ _ _ _ _ _ _ _
      | exact LeO.none _
      | refine LeO.ite ?_ ?_
      | refine LeO.bind ?_ (fun _ => ?_)

def spec_ruKeeps.e (k : Nat) : Refl.Ent G := ⟨34, [(.agg gL1), (.agg [li, li])], .one (.c .bool), fun x => spec_ruKeeps.f k x.1 x.2.1 x.2.2.1 x.2.2.2.1 x.2.2.2.2.1 x.2.2.2.2.2.1 x.2.2.2.2.2.2.1 x.2.2.2.2.2.2.2.1 x.2.2.2.2.2.2.2.2.1 x.2.2.2.2.2.2.2.2.2.1 x.2.2.2.2.2.2.2.2.2.2.1 x.2.2.2.2.2.2.2.2.2.2.2.1 x.2.2.2.2.2.2.2.2.2.2.2.2.1 x.2.2.2.2.2.2.2.2.2.2.2.2.2.1 x.2.2.2.2.2.2.2.2.2.2.2.2.2.2.1 x.2.2.2.2.2.2.2.2.2.2.2.2.2.2.2.1 x.2.2.2.2.2.2.2.2.2.2.2.2.2.2.2.2.1 x.2.2.2.2.2.2.2.2.2.2.2.2.2.2.2.2.2.1 x.2.2.2.2.2.2.2.2.2.2.2.2.2.2.2.2.2.2.1 x.2.2.2.2.2.2.2.2.2.2.2.2.2.2.2.2.2.2.2.1 x.2.2.2.2.2.2.2.2.2.2.2.2.2.2.2.2.2.2.2.2.1 x.2.2.2.2.2.2.2.2.2.2.2.2.2.2.2.2.2.2.2.2.2.1 x.2.2.2.2.2.2.2.2.2.2.2.2.2.2.2.2.2.2.2.2.2.2.1 x.2.2.2.2.2.2.2.2.2.2.2.2.2.2.2.2.2.2.2.2.2.2.2.1 x.2.2.2.2.2.2.2.2.2.2.2.2.2.2.2.2.2.2.2.2.2.2.2.2.1 x.2.2.2.2.2.2.2.2.2.2.2.2.2.2.2.2.2.2.2.2.2.2.2.2.2.1 x.2.2.2.2.2.2.2.2.2.2.2.2.2.2.2.2.2.2.2.2.2.2.2.2.2.2.1 x.2.2.2.2.2.2.2.2.2.2.2.2.2.2.2.2.2.2.2.2.2.2.2.2.2.2.2.1 x.2.2.2.2.2.2.2.2.2.2.2.2.2.2.2.2.2.2.2.2.2.2.2.2.2.2.2.2⟩
theorem spec_ruKeeps.ok (k : Nat) : Refl.EntOK Tryz.prog (spec_ruKeeps.e k) := Refl.ent_ok 1000000 k GC (fun k => [spec_ruSteps.e k, spec_ruOpen.e k, spec_siKind.e k]) (fun k => ⟨spec_ruSteps.ok k, spec_ruOpen.ok k, spec_siKind.ok k, trivial⟩) Tryz.func34 (by kernel_rfl) [] (ps := []) (by kernel_rfl) trivial (fun x => by kernel_rfl)

/-! ### spec_KeepsConstraint: function 15 -/

def spec_KeepsConstraint.f (k : Nat) (a0_0 : Int) (a0_1 : Int) (a0_2 : Int) (a0_3 : Int) (a0_4 : Int) (a0_5 : Bool) (a0_6 : Int) (a0_7 : Int) (a0_8 : Int) (a0_9 : Int) (a0_10 : Bool) (a0_11 : ByteArray) (a0_12 : Int) (a0_13 : Bool) (a0_14 : Int) (a0_15 : Int) (a0_16 : Int) (a0_17 : Int) (a0_18 : Int) (a0_19 : Bool) (a0_20 : Int) (a0_21 : Int) (a0_22 : Int) (a0_23 : Int) (a0_24 : Bool) (a0_25 : ByteArray) (a0_26 : Int) (a1_0 : Int) (a1_1 : Int) : Option (Bool × Bool) := (spec_siGood.f k a0_0 a0_1 a0_2 a0_3 a0_4 a0_5 a0_6 a0_7 a0_8 a0_9 a0_10 a0_11 a0_12 a0_13 a0_14 a0_15 a0_16 a0_17 a0_18 a0_19 a0_20 a0_21 a0_22 a0_23 a0_24 a0_25 a0_26).bind fun t501 => (if t501 = true then ((spec_ruGood.f a1_0 a1_1).bind fun t502 => (if t502 = true then ((spec_ruKeeps.f k a0_0 a0_1 a0_2 a0_3 a0_4 a0_5 a0_6 a0_7 a0_8 a0_9 a0_10 a0_11 a0_12 a0_13 a0_14 a0_15 a0_16 a0_17 a0_18 a0_19 a0_20 a0_21 a0_22 a0_23 a0_24 a0_25 a0_26 a1_0 a1_1).bind fun t503 => (some (t503, true))) else (some (false, false)))) else (some (false, false)))

theorem spec_KeepsConstraint.mono : ∀ a0 a1 a2 a3 a4 a5 a6 a7 a8 a9 a10 a11 a12 a13 a14 a15 a16 a17 a18 a19 a20 a21 a22 a23 a24 a25 a26 a27 a28 k, LeO (spec_KeepsConstraint.f k a0 a1 a2 a3 a4 a5 a6 a7 a8 a9 a10 a11 a12 a13 a14 a15 a16 a17 a18 a19 a20 a21 a22 a23 a24 a25 a26 a27 a28) (spec_KeepsConstraint.f (k + 1) a0 a1 a2 a3 a4 a5 a6 a7 a8 a9 a10 a11 a12 a13 a14 a15 a16 a17 a18 a19 a20 a21 a22 a23 a24 a25 a26 a27 a28) := by
  intro a0 a1 a2 a3 a4 a5 a6 a7 a8 a9 a10 a11 a12 a13 a14 a15 a16 a17 a18 a19 a20 a21 a22 a23 a24 a25 a26 a27 a28 k
  unfold spec_KeepsConstraint.f
  repeat' first
      | (with_reducible exact spec_ruKeeps.mono _ _ _ _ _ _ _ _ _ _ _ _ _ _ _ _ _ _ _ _ _ _ _ _ _ _ _ _ _ _)
      | (with_reducible exact spec_siGood.mono _ _ _ _ _ _ _ _ _ _ _ _ _ _ _ _ _ _ _ _ _ _ _ _ _ _ _ _)
      | (with_reducible exact LeO.refl _)
      | (with_reducible exact LeO.none _)
      | (with_reducible refine LeO.ite ?_ ?_)
      | (with_reducible refine LeO.bind ?_ (fun _ => ?_))
      | exact spec_ruKeeps.mono _ _ _ _ _ _ _ _ _ _ _ _ _ _ _ _ _ _ _ _ _ _ _ _ _ _ _ _ _ _
      | exact spec_siGood.mono _ _ _ _ _ _ _ _ _ _ _ _ _ _ _ _ _ _ _ _ _ _ _ _ _ _ _ _
      | exact LeO.none _
      | refine LeO.ite ?_ ?_
      | refine LeO.bind ?_ (fun _ => ?_)

def spec_KeepsConstraint.e (k : Nat) : Refl.Ent G := ⟨15, [(.agg gL1), (.agg [li, li])], .tup [(.c .bool), (.c .bool)], fun x => spec_KeepsConstraint.f k x.1 x.2.1 x.2.2.1 x.2.2.2.1 x.2.2.2.2.1 x.2.2.2.2.2.1 x.2.2.2.2.2.2.1 x.2.2.2.2.2.2.2.1 x.2.2.2.2.2.2.2.2.1 x.2.2.2.2.2.2.2.2.2.1 x.2.2.2.2.2.2.2.2.2.2.1 x.2.2.2.2.2.2.2.2.2.2.2.1 x.2.2.2.2.2.2.2.2.2.2.2.2.1 x.2.2.2.2.2.2.2.2.2.2.2.2.2.1 x.2.2.2.2.2.2.2.2.2.2.2.2.2.2.1 x.2.2.2.2.2.2.2.2.2.2.2.2.2.2.2.1 x.2.2.2.2.2.2.2.2.2.2.2.2.2.2.2.2.1 x.2.2.2.2.2.2.2.2.2.2.2.2.2.2.2.2.2.1 x.2.2.2.2.2.2.2.2.2.2.2.2.2.2.2.2.2.2.1 x.2.2.2.2.2.2.2.2.2.2.2.2.2.2.2.2.2.2.2.1 x.2.2.2.2.2.2.2.2.2.2.2.2.2.2.2.2.2.2.2.2.1 x.2.2.2.2.2.2.2.2.2.2.2.2.2.2.2.2.2.2.2.2.2.1 x.2.2.2.2.2.2.2.2.2.2.2.2.2.2.2.2.2.2.2.2.2.2.1 x.2.2.2.2.2.2.2.2.2.2.2.2.2.2.2.2.2.2.2.2.2.2.2.1 x.2.2.2.2.2.2.2.2.2.2.2.2.2.2.2.2.2.2.2.2.2.2.2.2.1 x.2.2.2.2.2.2.2.2.2.2.2.2.2.2.2.2.2.2.2.2.2.2.2.2.2.1 x.2.2.2.2.2.2.2.2.2.2.2.2.2.2.2.2.2.2.2.2.2.2.2.2.2.2.1 x.2.2.2.2.2.2.2.2.2.2.2.2.2.2.2.2.2.2.2.2.2.2.2.2.2.2.2.1 x.2.2.2.2.2.2.2.2.2.2.2.2.2.2.2.2.2.2.2.2.2.2.2.2.2.2.2.2⟩
theorem spec_KeepsConstraint.ok (k : Nat) : Refl.EntOK Tryz.prog (spec_KeepsConstraint.e k) := Refl.ent_ok 1000000 k GC (fun k => [spec_siGood.e k, spec_ruGood.e k, spec_ruKeeps.e k]) (fun k => ⟨spec_siGood.ok k, spec_ruGood.ok k, spec_ruKeeps.ok k, trivial⟩) Tryz.func15 (by kernel_rfl) [] (ps := []) (by kernel_rfl) trivial (fun x => by kernel_rfl)

/-! ### laws_toConstraint: function 16 -/

def laws_toConstraint.f (a0_0 : Int) (a0_1 : Int) : Option (Int × Int) := some (a0_0, a0_1)

def laws_toConstraint.e (k : Nat) : Refl.Ent G := ⟨16, [(.agg [li, li])], .one (.agg [li, li]), fun x => laws_toConstraint.f x.1 x.2⟩
theorem laws_toConstraint.ok (k : Nat) : Refl.EntOK Tryz.prog (laws_toConstraint.e k) := Refl.ent_ok 1000000 k GC (fun k => []) (fun k => trivial) Tryz.func16 (by kernel_rfl) [] (ps := []) (by kernel_rfl) trivial (fun x => by kernel_rfl)

/-! ### impl_IsConstraint: function 35 -/

def icMost (k : Int) : Int := if k = 0 then 18 else if k = 1 then 9 else if k = 2 then 4 else if k = 3 then 3 else 9

def impl_IsConstraint.f (a0_0 a0_1 : Int) : Option Bool := some (decide (0 ≤ a0_0 ∧ a0_0 ≤ 4) && decide (0 ≤ a0_1 ∧ a0_1 ≤ icMost a0_0))

theorem ic_within (a b c : Int) : impl_within.f a b c = some (decide (b ≤ a ∧ a ≤ c)) := by
  unfold impl_within.f
  by_cases h : b ≤ a
  · rw [if_pos h]; simp [h]
  · rw [if_neg h]; simp [h]

def impl_IsConstraint.e (k : Nat) : Refl.Ent G := ⟨35, [(.agg [li, li])], .one (.c .bool), fun x => impl_IsConstraint.f x.1 x.2⟩
def ic0.f (a0 a1 : Int) : Option Bool := (impl_within.f a0 0 4).bind fun t => if t = true then (if 0 ≤ a0 then (if a0 < 5 then ((impl_within.f a1 0 (rd [18, 9, 4, 3, 9] a0)).bind fun u => some u) else (none)) else (none)) else (some false)
def ic0.e (k : Nat) : Refl.Ent G := ⟨35, [(.agg [li, li])], .one (.c .bool), fun x => ic0.f x.1 x.2⟩
theorem ic0.ok (k : Nat) : Refl.EntOK Tryz.prog (ic0.e k) := Refl.ent_ok 1000000 k GC (fun k => [impl_within.e k]) (fun k => ⟨impl_within.ok k, trivial⟩) Tryz.func35 (by kernel_rfl) [] (ps := []) (by kernel_rfl) trivial (fun x => by kernel_rfl)
theorem ic0_eq (a b : Int) : ic0.f a b = impl_IsConstraint.f a b := by
  unfold ic0.f impl_IsConstraint.f
  simp only [ic_within, Option.bind_some]
  by_cases hk : 0 ≤ a ∧ a ≤ 4
  · have h5 : a = 0 ∨ a = 1 ∨ a = 2 ∨ a = 3 ∨ a = 4 := by omega
    rcases h5 with rfl | rfl | rfl | rfl | rfl <;> rfl
  · rw [decide_eq_false hk]
    rfl
theorem impl_IsConstraint.ok (k : Nat) : Refl.EntOK Tryz.prog (impl_IsConstraint.e k) := (ic0.ok 0).weaken _ fun x y h => (ic0_eq x.1 x.2).trans h

/-! ### impl_Sign_steps: function 64 -/

def impl_Sign_steps.f (a0_0 : Int) (a0_1 : Int) (a0_2 : Int) (a0_3 : Int) (a0_4 : Int) (a0_5 : Bool) (a0_6 : Int) (a0_7 : Int) (a0_8 : Int) (a0_9 : Int) (a0_10 : Bool) (a0_11 : ByteArray) (a0_12 : Int) (a0_13 : Bool) (a0_14 : Int) (a0_15 : Int) (a0_16 : Int) (a0_17 : Int) (a0_18 : Int) (a0_19 : Bool) (a0_20 : Int) (a0_21 : Int) (a0_22 : Int) (a0_23 : Int) (a0_24 : Bool) (a0_25 : ByteArray) (a0_26 : Int) : Option (Int) := (impl_Move_all.f a0_11 a0_12).bind fun t508 => ((impl_Move_all.f a0_25 a0_26).bind fun t509 => (some (mx (t508.size : Int) (t509.size : Int))))

def impl_Sign_steps.e (k : Nat) : Refl.Ent G := ⟨64, [(.agg gL1)], .one (.c li), fun x => impl_Sign_steps.f x.1 x.2.1 x.2.2.1 x.2.2.2.1 x.2.2.2.2.1 x.2.2.2.2.2.1 x.2.2.2.2.2.2.1 x.2.2.2.2.2.2.2.1 x.2.2.2.2.2.2.2.2.1 x.2.2.2.2.2.2.2.2.2.1 x.2.2.2.2.2.2.2.2.2.2.1 x.2.2.2.2.2.2.2.2.2.2.2.1 x.2.2.2.2.2.2.2.2.2.2.2.2.1 x.2.2.2.2.2.2.2.2.2.2.2.2.2.1 x.2.2.2.2.2.2.2.2.2.2.2.2.2.2.1 x.2.2.2.2.2.2.2.2.2.2.2.2.2.2.2.1 x.2.2.2.2.2.2.2.2.2.2.2.2.2.2.2.2.1 x.2.2.2.2.2.2.2.2.2.2.2.2.2.2.2.2.2.1 x.2.2.2.2.2.2.2.2.2.2.2.2.2.2.2.2.2.2.1 x.2.2.2.2.2.2.2.2.2.2.2.2.2.2.2.2.2.2.2.1 x.2.2.2.2.2.2.2.2.2.2.2.2.2.2.2.2.2.2.2.2.1 x.2.2.2.2.2.2.2.2.2.2.2.2.2.2.2.2.2.2.2.2.2.1 x.2.2.2.2.2.2.2.2.2.2.2.2.2.2.2.2.2.2.2.2.2.2.1 x.2.2.2.2.2.2.2.2.2.2.2.2.2.2.2.2.2.2.2.2.2.2.2.1 x.2.2.2.2.2.2.2.2.2.2.2.2.2.2.2.2.2.2.2.2.2.2.2.2.1 x.2.2.2.2.2.2.2.2.2.2.2.2.2.2.2.2.2.2.2.2.2.2.2.2.2.1 x.2.2.2.2.2.2.2.2.2.2.2.2.2.2.2.2.2.2.2.2.2.2.2.2.2.2⟩
theorem impl_Sign_steps.ok (k : Nat) : Refl.EntOK Tryz.prog (impl_Sign_steps.e k) := Refl.ent_ok 1000000 k GC (fun k => [impl_Move_all.e k]) (fun k => ⟨impl_Move_all.ok k, trivial⟩) Tryz.func64 (by kernel_rfl) [] (ps := []) (by kernel_rfl) trivial (fun x => by kernel_rfl)

/-! ### impl_Shape_open: function 65 -/

def thIIdx : Nat → List Int → List Int
  | _, [] => []
  | i, x :: xs => if (x == 0) = true then (i : Int) :: thIIdx (i + 1) xs else thIIdx (i + 1) xs
/-- How many hold. -/

def thICnt (l : List Int) : Int := ((l.filter fun x => (x == 0)).length : Int)

theorem thIIdx_len : ∀ (l : List Int) (i : Nat), (thIIdx i l).length = (l.filter fun x => (x == 0)).length
  | [], _ => rfl
  | x :: xs, i => by
    unfold thIIdx
    rw [List.filter_cons]
    by_cases h : (x == 0) = true
    · rw [if_pos h, if_pos h, List.length_cons, List.length_cons, thIIdx_len xs (i + 1)]
    · rw [if_neg h, if_neg h, thIIdx_len xs (i + 1)]

def thIFrom (l : List Int) (i : Nat) (o R : List Int) : Prop := i ≤ l.length ∧ o ++ thIIdx i (l.drop i) = R ∧ o.length ≤ i

theorem thI_step {l : List Int} {i : Nat} {o R : List Int} (h : thIFrom l i o R) (hlt : i < l.length) : ((fun x => (x == 0)) l[i] = true → thIFrom l (i + 1) (o ++ [(i : Int)]) R) ∧ (¬ (fun x => (x == 0)) l[i] = true → thIFrom l (i + 1) o R) := by
  obtain ⟨_, h, hl⟩ := h
  rw [List.drop_eq_getElem_cons hlt] at h
  unfold thIIdx at h
  refine ⟨fun e => ?_, fun e => ?_⟩
  · rw [if_pos e] at h
    exact ⟨by omega, by rw [List.append_assoc]; exact h, by simp; omega⟩
  · rw [if_neg e] at h
    exact ⟨by omega, h, by omega⟩

theorem thI_end {l : List Int} {i : Nat} {o R : List Int} (h : thIFrom l i o R) (hge : ¬ i < l.length) : o = R := by
  obtain ⟨hi, h, _⟩ := h
  rw [List.drop_eq_nil_of_le (by omega)] at h
  simpa [thIIdx] using h

theorem thI_info : (Tryz.prog.info? 3).map (fun i => (i.zero, i.size, i.bytes)) = some (some (.int .i64 0), 1, 8) := by kernel_rfl

def impl_Shape_open.f (a0_0 a0_1 a0_2 a0_3 a0_4 : Int) (a0_5 : Bool) : Option Int := some (thICnt [a0_1, a0_2, a0_3, a0_4])

def impl_Shape_open.e (k : Nat) : Refl.Ent G := ⟨65, [(.agg [li, li, li, li, li, .bool])], .one (.c li), fun x => impl_Shape_open.f x.1 x.2.1 x.2.2.1 x.2.2.2.1 x.2.2.2.2.1 x.2.2.2.2.2⟩
def op1.f (x : Int) : Option Bool := some (x == 0)
def op1.e (k : Nat) : Refl.Ent G := ⟨101, [.c li], .one (.c .bool), fun x => op1.f x⟩
theorem op1.ok (k : Nat) : Refl.EntOK Tryz.prog (op1.e k) := Refl.ent_ok 1000000 k GC (fun k => []) (fun k => trivial) Tryz.func101 (by kernel_rfl) [] (ps := []) (by kernel_rfl) trivial (fun x => by kernel_rfl)
def op2.l0 : Nat → List Int → Int → Int → List Int → Option (List Int)
  | 0, _, _, _, _ => none
  | k + 1, l, n, i, o => if i < n then (if 0 ≤ i then (if i < (l.length : Int) then ((op1.f (rd l i)).bind fun t => if t = true then (if o.length < 17592186044416 then (op2.l0 k l n (wrap64 (i + 1)) (o ++ [i])) else (none)) else (op2.l0 k l n (wrap64 (i + 1)) o)) else (none)) else (none)) else (some o)
def op2.f (k : Nat) (l : List Int) : Option (List Int) := op2.l0 k l (l.length : Int) 0 ([] : List Int)
def op2.e (k : Nat) : Refl.Ent G := ⟨99, [.c (.row 3 false), .clo 101 []], .one (.c (.row 3 true)), fun x => op2.f k x⟩
def op2.p : Refl.Pn G (Refl.PT G (op2.e 0).res.ls) := ⟨true, 0, ⟨[(1, .v (.clo 101 [])), (8, .v (.c (.row 3 false))), (9, .v (.c li)), (10, .v (.c li)), (5, .v (.c (.row 3 true)))], []⟩, fun k x => op2.l0 k x.1 x.2.1 x.2.2.1 x.2.2.2⟩
theorem op2.ok (k : Nat) : Refl.EntOK Tryz.prog (op2.e k) := Refl.ent_ok 1000000 k GC (fun k => [op1.e k]) (fun k => ⟨op1.ok k, trivial⟩) Tryz.func99 (by kernel_rfl) [op2.p] (ps := [op2.p]) (by kernel_rfl) ⟨⟨fun x => by kernel_rfl, fun k x => by kernel_rfl⟩, trivial⟩ (fun x => by kernel_rfl)
def op0.f (k : Nat) (a0 a1 a2 a3 a4 : Int) (a5 : Bool) : Option Int := (impl_Shape_bends.f a0 a1 a2 a3 a4 a5).bind fun t => (op2.f k t).bind fun u => some (u.length : Int)
def op0.e (k : Nat) : Refl.Ent G := ⟨65, [(.agg [li, li, li, li, li, .bool])], .one (.c li), fun x => op0.f k x.1 x.2.1 x.2.2.1 x.2.2.2.1 x.2.2.2.2.1 x.2.2.2.2.2⟩
theorem op0.ok (k : Nat) : Refl.EntOK Tryz.prog (op0.e k) := Refl.ent_ok 1000000 k GC (fun k => [impl_Shape_bends.e k, op2.e k]) (fun k => ⟨impl_Shape_bends.ok k, op2.ok k, trivial⟩) Tryz.func65 (by kernel_rfl) [] (ps := []) (by kernel_rfl) trivial (fun x => by kernel_rfl)
theorem op2_eq (l : List Int) (hl : l.length ≤ 1000) : ∀ (k i : Nat) (o : List Int), l.length - i < k → i ≤ l.length → o.length ≤ i → op2.l0 k l (l.length : Int) (i : Int) o = some (o ++ thIIdx i (l.drop i))
  | 0, i, o, h, _, _ => by omega
  | k + 1, i, o, h, hi, ho => by
    unfold op2.l0
    by_cases hlt : i < l.length
    · have hd := List.drop_eq_getElem_cons hlt
      have e : rd l (i : Int) = l[i] := by
        unfold rd
        rw [List.getD_eq_getElem?_getD]
        simp [hlt]
      have hw : wrap64 ((i : Int) + 1) = ((i + 1 : Nat) : Int) := by unfold wrap64; omega
      rw [if_pos (by omega), if_pos (by omega), if_pos (by omega), e, hd, hw]
      simp only [op1.f, Option.bind_some, thIIdx]
      by_cases hx : (l[i] == 0) = true
      · rw [if_pos hx, if_pos hx, if_pos (by omega), op2_eq l hl k (i + 1) _ (by omega) (by omega) (by simp; omega), List.append_assoc]
        rfl
      · rw [if_neg hx, if_neg hx, op2_eq l hl k (i + 1) _ (by omega) (by omega) (by omega)]
    · rw [if_neg (by omega), List.drop_eq_nil_of_le (by omega)]
      simp [thIIdx]
theorem op0_eq (a0 a1 a2 a3 a4 : Int) (a5 : Bool) : op0.f 1002 a0 a1 a2 a3 a4 a5 = impl_Shape_open.f a0 a1 a2 a3 a4 a5 := by
  have := op2_eq [a1, a2, a3, a4] (by simp) 1002 0 [] (by simp) (by simp) (by simp)
  show (op2.l0 1002 [a1, a2, a3, a4] (([a1, a2, a3, a4] : List Int).length : Int) ((0 : Nat) : Int) []).bind _ = some (thICnt [a1, a2, a3, a4])
  rw [this]
  simp only [Option.bind_some, List.nil_append, List.drop_zero, thIIdx_len, thICnt]
theorem impl_Shape_open.ok (k : Nat) : Refl.EntOK Tryz.prog (impl_Shape_open.e k) := (op0.ok 1002).weaken _ fun x y h => (op0_eq x.1 x.2.1 x.2.2.1 x.2.2.2.1 x.2.2.2.2.1 x.2.2.2.2.2).trans h

/-! ### impl_Sign_kind: function 66 -/

def impl_Sign_kind.f (a0_0 : Int) (a0_1 : Int) (a0_2 : Int) (a0_3 : Int) (a0_4 : Int) (a0_5 : Bool) (a0_6 : Int) (a0_7 : Int) (a0_8 : Int) (a0_9 : Int) (a0_10 : Bool) (a0_11 : ByteArray) (a0_12 : Int) (a0_13 : Bool) (a0_14 : Int) (a0_15 : Int) (a0_16 : Int) (a0_17 : Int) (a0_18 : Int) (a0_19 : Bool) (a0_20 : Int) (a0_21 : Int) (a0_22 : Int) (a0_23 : Int) (a0_24 : Bool) (a0_25 : ByteArray) (a0_26 : Int) : Option (Int) := if a0_13 = true then ((impl_Hand_moves.f a0_14 a0_15 a0_16 a0_17 a0_18 a0_19 a0_20 a0_21 a0_22 a0_23 a0_24 a0_25 a0_26).bind fun t511 => (if t511 = true then (some 1) else (if (a0_14 == a0_0 && (a0_15 == a0_1 && (a0_16 == a0_2 && (a0_17 == a0_3 && (a0_18 == a0_4 && (a0_19 == a0_5)))))) = true then (some 2) else (some 3)))) else (some 0)

def impl_Sign_kind.e (k : Nat) : Refl.Ent G := ⟨66, [(.agg gL1)], .one (.c li), fun x => impl_Sign_kind.f x.1 x.2.1 x.2.2.1 x.2.2.2.1 x.2.2.2.2.1 x.2.2.2.2.2.1 x.2.2.2.2.2.2.1 x.2.2.2.2.2.2.2.1 x.2.2.2.2.2.2.2.2.1 x.2.2.2.2.2.2.2.2.2.1 x.2.2.2.2.2.2.2.2.2.2.1 x.2.2.2.2.2.2.2.2.2.2.2.1 x.2.2.2.2.2.2.2.2.2.2.2.2.1 x.2.2.2.2.2.2.2.2.2.2.2.2.2.1 x.2.2.2.2.2.2.2.2.2.2.2.2.2.2.1 x.2.2.2.2.2.2.2.2.2.2.2.2.2.2.2.1 x.2.2.2.2.2.2.2.2.2.2.2.2.2.2.2.2.1 x.2.2.2.2.2.2.2.2.2.2.2.2.2.2.2.2.2.1 x.2.2.2.2.2.2.2.2.2.2.2.2.2.2.2.2.2.2.1 x.2.2.2.2.2.2.2.2.2.2.2.2.2.2.2.2.2.2.2.1 x.2.2.2.2.2.2.2.2.2.2.2.2.2.2.2.2.2.2.2.2.1 x.2.2.2.2.2.2.2.2.2.2.2.2.2.2.2.2.2.2.2.2.2.1 x.2.2.2.2.2.2.2.2.2.2.2.2.2.2.2.2.2.2.2.2.2.2.1 x.2.2.2.2.2.2.2.2.2.2.2.2.2.2.2.2.2.2.2.2.2.2.2.1 x.2.2.2.2.2.2.2.2.2.2.2.2.2.2.2.2.2.2.2.2.2.2.2.2.1 x.2.2.2.2.2.2.2.2.2.2.2.2.2.2.2.2.2.2.2.2.2.2.2.2.2.1 x.2.2.2.2.2.2.2.2.2.2.2.2.2.2.2.2.2.2.2.2.2.2.2.2.2.2⟩
theorem impl_Sign_kind.ok (k : Nat) : Refl.EntOK Tryz.prog (impl_Sign_kind.e k) := Refl.ent_ok 1000000 k GC (fun k => [impl_Hand_moves.e k]) (fun k => ⟨impl_Hand_moves.ok k, trivial⟩) Tryz.func66 (by kernel_rfl) [] (ps := []) (by kernel_rfl) trivial (fun x => by kernel_rfl)

/-! ### impl_Constraint_keptBy: function 36 -/

def impl_Constraint_keptBy.f (a0_0 : Int) (a0_1 : Int) (a1_0 : Int) (a1_1 : Int) (a1_2 : Int) (a1_3 : Int) (a1_4 : Int) (a1_5 : Bool) (a1_6 : Int) (a1_7 : Int) (a1_8 : Int) (a1_9 : Int) (a1_10 : Bool) (a1_11 : ByteArray) (a1_12 : Int) (a1_13 : Bool) (a1_14 : Int) (a1_15 : Int) (a1_16 : Int) (a1_17 : Int) (a1_18 : Int) (a1_19 : Bool) (a1_20 : Int) (a1_21 : Int) (a1_22 : Int) (a1_23 : Int) (a1_24 : Bool) (a1_25 : ByteArray) (a1_26 : Int) : Option (Bool) := if a0_0 = 0 then ((impl_Sign_steps.f a1_0 a1_1 a1_2 a1_3 a1_4 a1_5 a1_6 a1_7 a1_8 a1_9 a1_10 a1_11 a1_12 a1_13 a1_14 a1_15 a1_16 a1_17 a1_18 a1_19 a1_20 a1_21 a1_22 a1_23 a1_24 a1_25 a1_26).bind fun t514 => (some (decide (t514 ≤ a0_1)))) else (if a0_0 = 1 then (if a1_8 = a0_1 then (some false) else (if a1_13 = true then (some (!(a1_22 == a0_1))) else (some (!false)))) else (if a0_0 = 2 then ((impl_Shape_open.f a1_0 a1_1 a1_2 a1_3 a1_4 a1_5).bind fun t515 => (some (decide (t515 ≥ a0_1)))) else (if a0_0 = 3 then ((impl_Sign_kind.f a1_0 a1_1 a1_2 a1_3 a1_4 a1_5 a1_6 a1_7 a1_8 a1_9 a1_10 a1_11 a1_12 a1_13 a1_14 a1_15 a1_16 a1_17 a1_18 a1_19 a1_20 a1_21 a1_22 a1_23 a1_24 a1_25 a1_26).bind fun t516 => (some (t516 != a0_1))) else (some (decide (a1_8 ≤ a0_1))))))

def impl_Constraint_keptBy.e (k : Nat) : Refl.Ent G := ⟨36, [(.agg [li, li]), (.agg gL1)], .one (.c .bool), fun x => impl_Constraint_keptBy.f x.1 x.2.1 x.2.2.1 x.2.2.2.1 x.2.2.2.2.1 x.2.2.2.2.2.1 x.2.2.2.2.2.2.1 x.2.2.2.2.2.2.2.1 x.2.2.2.2.2.2.2.2.1 x.2.2.2.2.2.2.2.2.2.1 x.2.2.2.2.2.2.2.2.2.2.1 x.2.2.2.2.2.2.2.2.2.2.2.1 x.2.2.2.2.2.2.2.2.2.2.2.2.1 x.2.2.2.2.2.2.2.2.2.2.2.2.2.1 x.2.2.2.2.2.2.2.2.2.2.2.2.2.2.1 x.2.2.2.2.2.2.2.2.2.2.2.2.2.2.2.1 x.2.2.2.2.2.2.2.2.2.2.2.2.2.2.2.2.1 x.2.2.2.2.2.2.2.2.2.2.2.2.2.2.2.2.2.1 x.2.2.2.2.2.2.2.2.2.2.2.2.2.2.2.2.2.2.1 x.2.2.2.2.2.2.2.2.2.2.2.2.2.2.2.2.2.2.2.1 x.2.2.2.2.2.2.2.2.2.2.2.2.2.2.2.2.2.2.2.2.1 x.2.2.2.2.2.2.2.2.2.2.2.2.2.2.2.2.2.2.2.2.2.1 x.2.2.2.2.2.2.2.2.2.2.2.2.2.2.2.2.2.2.2.2.2.2.1 x.2.2.2.2.2.2.2.2.2.2.2.2.2.2.2.2.2.2.2.2.2.2.2.1 x.2.2.2.2.2.2.2.2.2.2.2.2.2.2.2.2.2.2.2.2.2.2.2.2.1 x.2.2.2.2.2.2.2.2.2.2.2.2.2.2.2.2.2.2.2.2.2.2.2.2.2.1 x.2.2.2.2.2.2.2.2.2.2.2.2.2.2.2.2.2.2.2.2.2.2.2.2.2.2.1 x.2.2.2.2.2.2.2.2.2.2.2.2.2.2.2.2.2.2.2.2.2.2.2.2.2.2.2.1 x.2.2.2.2.2.2.2.2.2.2.2.2.2.2.2.2.2.2.2.2.2.2.2.2.2.2.2.2⟩
theorem impl_Constraint_keptBy.ok (k : Nat) : Refl.EntOK Tryz.prog (impl_Constraint_keptBy.e k) := Refl.ent_ok 1000000 k GC (fun k => [impl_Sign_steps.e k, impl_Shape_open.e k, impl_Sign_kind.e k]) (fun k => ⟨impl_Sign_steps.ok k, impl_Shape_open.ok k, impl_Sign_kind.ok k, trivial⟩) Tryz.func36 (by kernel_rfl) [] (ps := []) (by kernel_rfl) trivial (fun x => by kernel_rfl)

/-! ### impl_KeepsConstraint: function 17 -/

def impl_KeepsConstraint.f (k : Nat) (a0_0 : Int) (a0_1 : Int) (a0_2 : Int) (a0_3 : Int) (a0_4 : Int) (a0_5 : Bool) (a0_6 : Int) (a0_7 : Int) (a0_8 : Int) (a0_9 : Int) (a0_10 : Bool) (a0_11 : ByteArray) (a0_12 : Int) (a0_13 : Bool) (a0_14 : Int) (a0_15 : Int) (a0_16 : Int) (a0_17 : Int) (a0_18 : Int) (a0_19 : Bool) (a0_20 : Int) (a0_21 : Int) (a0_22 : Int) (a0_23 : Int) (a0_24 : Bool) (a0_25 : ByteArray) (a0_26 : Int) (a1_0 : Int) (a1_1 : Int) : Option (Bool × Bool) := (impl_IsSign.f k a0_0 a0_1 a0_2 a0_3 a0_4 a0_5 a0_6 a0_7 a0_8 a0_9 a0_10 a0_11 a0_12 a0_13 a0_14 a0_15 a0_16 a0_17 a0_18 a0_19 a0_20 a0_21 a0_22 a0_23 a0_24 a0_25 a0_26).bind fun t519 => (if t519 = true then ((impl_IsConstraint.f a1_0 a1_1).bind fun t520 => (if t520 = true then ((impl_Constraint_keptBy.f a1_0 a1_1 a0_0 a0_1 a0_2 a0_3 a0_4 a0_5 a0_6 a0_7 a0_8 a0_9 a0_10 a0_11 a0_12 a0_13 a0_14 a0_15 a0_16 a0_17 a0_18 a0_19 a0_20 a0_21 a0_22 a0_23 a0_24 a0_25 a0_26).bind fun t521 => (some (t521, true))) else (some (false, false)))) else (some (false, false)))

theorem impl_KeepsConstraint.mono : ∀ a0 a1 a2 a3 a4 a5 a6 a7 a8 a9 a10 a11 a12 a13 a14 a15 a16 a17 a18 a19 a20 a21 a22 a23 a24 a25 a26 a27 a28 k, LeO (impl_KeepsConstraint.f k a0 a1 a2 a3 a4 a5 a6 a7 a8 a9 a10 a11 a12 a13 a14 a15 a16 a17 a18 a19 a20 a21 a22 a23 a24 a25 a26 a27 a28) (impl_KeepsConstraint.f (k + 1) a0 a1 a2 a3 a4 a5 a6 a7 a8 a9 a10 a11 a12 a13 a14 a15 a16 a17 a18 a19 a20 a21 a22 a23 a24 a25 a26 a27 a28) := by
  intro a0 a1 a2 a3 a4 a5 a6 a7 a8 a9 a10 a11 a12 a13 a14 a15 a16 a17 a18 a19 a20 a21 a22 a23 a24 a25 a26 a27 a28 k
  unfold impl_KeepsConstraint.f
  repeat' first
      | (with_reducible exact impl_IsSign.mono _ _ _ _ _ _ _ _ _ _ _ _ _ _ _ _ _ _ _ _ _ _ _ _ _ _ _ _)
      | (with_reducible exact LeO.refl _)
      | (with_reducible exact LeO.none _)
      | (with_reducible refine LeO.ite ?_ ?_)
      | (with_reducible refine LeO.bind ?_ (fun _ => ?_))
      | exact impl_IsSign.mono _ _ _ _ _ _ _ _ _ _ _ _ _ _ _ _ _ _ _ _ _ _ _ _ _ _ _ _
      | exact LeO.none _
      | refine LeO.ite ?_ ?_
      | refine LeO.bind ?_ (fun _ => ?_)

def impl_KeepsConstraint.e (k : Nat) : Refl.Ent G := ⟨17, [(.agg gL1), (.agg [li, li])], .tup [(.c .bool), (.c .bool)], fun x => impl_KeepsConstraint.f k x.1 x.2.1 x.2.2.1 x.2.2.2.1 x.2.2.2.2.1 x.2.2.2.2.2.1 x.2.2.2.2.2.2.1 x.2.2.2.2.2.2.2.1 x.2.2.2.2.2.2.2.2.1 x.2.2.2.2.2.2.2.2.2.1 x.2.2.2.2.2.2.2.2.2.2.1 x.2.2.2.2.2.2.2.2.2.2.2.1 x.2.2.2.2.2.2.2.2.2.2.2.2.1 x.2.2.2.2.2.2.2.2.2.2.2.2.2.1 x.2.2.2.2.2.2.2.2.2.2.2.2.2.2.1 x.2.2.2.2.2.2.2.2.2.2.2.2.2.2.2.1 x.2.2.2.2.2.2.2.2.2.2.2.2.2.2.2.2.1 x.2.2.2.2.2.2.2.2.2.2.2.2.2.2.2.2.2.1 x.2.2.2.2.2.2.2.2.2.2.2.2.2.2.2.2.2.2.1 x.2.2.2.2.2.2.2.2.2.2.2.2.2.2.2.2.2.2.2.1 x.2.2.2.2.2.2.2.2.2.2.2.2.2.2.2.2.2.2.2.2.1 x.2.2.2.2.2.2.2.2.2.2.2.2.2.2.2.2.2.2.2.2.2.1 x.2.2.2.2.2.2.2.2.2.2.2.2.2.2.2.2.2.2.2.2.2.2.1 x.2.2.2.2.2.2.2.2.2.2.2.2.2.2.2.2.2.2.2.2.2.2.2.1 x.2.2.2.2.2.2.2.2.2.2.2.2.2.2.2.2.2.2.2.2.2.2.2.2.1 x.2.2.2.2.2.2.2.2.2.2.2.2.2.2.2.2.2.2.2.2.2.2.2.2.2.1 x.2.2.2.2.2.2.2.2.2.2.2.2.2.2.2.2.2.2.2.2.2.2.2.2.2.2.1 x.2.2.2.2.2.2.2.2.2.2.2.2.2.2.2.2.2.2.2.2.2.2.2.2.2.2.2.1 x.2.2.2.2.2.2.2.2.2.2.2.2.2.2.2.2.2.2.2.2.2.2.2.2.2.2.2.2⟩
theorem impl_KeepsConstraint.ok (k : Nat) : Refl.EntOK Tryz.prog (impl_KeepsConstraint.e k) := Refl.ent_ok 1000000 k GC (fun k => [impl_IsSign.e k, impl_IsConstraint.e k, impl_Constraint_keptBy.e k]) (fun k => ⟨impl_IsSign.ok k, impl_IsConstraint.ok k, impl_Constraint_keptBy.ok k, trivial⟩) Tryz.func17 (by kernel_rfl) [] (ps := []) (by kernel_rfl) trivial (fun x => by kernel_rfl)

/-! ### laws_FnExactKeepsConstraint: function 5 -/

def laws_FnExactKeepsConstraint.f (k : Nat) (a0_0 : Int) (a0_1 : Int) (a0_2 : Int) (a0_3 : Int) (a0_4 : Int) (a0_5 : Bool) (a0_6 : Int) (a0_7 : Int) (a0_8 : Int) (a0_9 : Int) (a0_10 : Bool) (a0_11 : ByteArray) (a0_12 : Int) (a0_13 : Bool) (a0_14 : Int) (a0_15 : Int) (a0_16 : Int) (a0_17 : Int) (a0_18 : Int) (a0_19 : Bool) (a0_20 : Int) (a0_21 : Int) (a0_22 : Int) (a0_23 : Int) (a0_24 : Bool) (a0_25 : ByteArray) (a0_26 : Int) (a1_0 : Int) (a1_1 : Int) : Option (Bool) := (laws_szSign.f a0_0 a0_1 a0_2 a0_3 a0_4 a0_5 a0_6 a0_7 a0_8 a0_9 a0_10 a0_11 a0_12 a0_13 a0_14 a0_15 a0_16 a0_17 a0_18 a0_19 a0_20 a0_21 a0_22 a0_23 a0_24 a0_25 a0_26 1048576).bind fun t524 => (if t524 < 0 then (some true) else ((laws_toSign.f a0_0 a0_1 a0_2 a0_3 a0_4 a0_5 a0_6 a0_7 a0_8 a0_9 a0_10 a0_11 a0_12 a0_13 a0_14 a0_15 a0_16 a0_17 a0_18 a0_19 a0_20 a0_21 a0_22 a0_23 a0_24 a0_25 a0_26).bind fun bt525 => ((laws_toConstraint.f a1_0 a1_1).bind fun bt552 => ((spec_KeepsConstraint.f k bt525.1 bt525.2.1 bt525.2.2.1 bt525.2.2.2.1 bt525.2.2.2.2.1 bt525.2.2.2.2.2.1 bt525.2.2.2.2.2.2.1 bt525.2.2.2.2.2.2.2.1 bt525.2.2.2.2.2.2.2.2.1 bt525.2.2.2.2.2.2.2.2.2.1 bt525.2.2.2.2.2.2.2.2.2.2.1 bt525.2.2.2.2.2.2.2.2.2.2.2.1 bt525.2.2.2.2.2.2.2.2.2.2.2.2.1 bt525.2.2.2.2.2.2.2.2.2.2.2.2.2.1 bt525.2.2.2.2.2.2.2.2.2.2.2.2.2.2.1 bt525.2.2.2.2.2.2.2.2.2.2.2.2.2.2.2.1 bt525.2.2.2.2.2.2.2.2.2.2.2.2.2.2.2.2.1 bt525.2.2.2.2.2.2.2.2.2.2.2.2.2.2.2.2.2.1 bt525.2.2.2.2.2.2.2.2.2.2.2.2.2.2.2.2.2.2.1 bt525.2.2.2.2.2.2.2.2.2.2.2.2.2.2.2.2.2.2.2.1 bt525.2.2.2.2.2.2.2.2.2.2.2.2.2.2.2.2.2.2.2.2.1 bt525.2.2.2.2.2.2.2.2.2.2.2.2.2.2.2.2.2.2.2.2.2.1 bt525.2.2.2.2.2.2.2.2.2.2.2.2.2.2.2.2.2.2.2.2.2.2.1 bt525.2.2.2.2.2.2.2.2.2.2.2.2.2.2.2.2.2.2.2.2.2.2.2.1 bt525.2.2.2.2.2.2.2.2.2.2.2.2.2.2.2.2.2.2.2.2.2.2.2.2.1 bt525.2.2.2.2.2.2.2.2.2.2.2.2.2.2.2.2.2.2.2.2.2.2.2.2.2.1 bt525.2.2.2.2.2.2.2.2.2.2.2.2.2.2.2.2.2.2.2.2.2.2.2.2.2.2 bt552.1 bt552.2).bind fun bt554 => ((laws_toSign.f a0_0 a0_1 a0_2 a0_3 a0_4 a0_5 a0_6 a0_7 a0_8 a0_9 a0_10 a0_11 a0_12 a0_13 a0_14 a0_15 a0_16 a0_17 a0_18 a0_19 a0_20 a0_21 a0_22 a0_23 a0_24 a0_25 a0_26).bind fun bt556 => ((laws_toConstraint.f a1_0 a1_1).bind fun bt583 => ((impl_KeepsConstraint.f k bt556.1 bt556.2.1 bt556.2.2.1 bt556.2.2.2.1 bt556.2.2.2.2.1 bt556.2.2.2.2.2.1 bt556.2.2.2.2.2.2.1 bt556.2.2.2.2.2.2.2.1 bt556.2.2.2.2.2.2.2.2.1 bt556.2.2.2.2.2.2.2.2.2.1 bt556.2.2.2.2.2.2.2.2.2.2.1 bt556.2.2.2.2.2.2.2.2.2.2.2.1 bt556.2.2.2.2.2.2.2.2.2.2.2.2.1 bt556.2.2.2.2.2.2.2.2.2.2.2.2.2.1 bt556.2.2.2.2.2.2.2.2.2.2.2.2.2.2.1 bt556.2.2.2.2.2.2.2.2.2.2.2.2.2.2.2.1 bt556.2.2.2.2.2.2.2.2.2.2.2.2.2.2.2.2.1 bt556.2.2.2.2.2.2.2.2.2.2.2.2.2.2.2.2.2.1 bt556.2.2.2.2.2.2.2.2.2.2.2.2.2.2.2.2.2.2.1 bt556.2.2.2.2.2.2.2.2.2.2.2.2.2.2.2.2.2.2.2.1 bt556.2.2.2.2.2.2.2.2.2.2.2.2.2.2.2.2.2.2.2.2.1 bt556.2.2.2.2.2.2.2.2.2.2.2.2.2.2.2.2.2.2.2.2.2.1 bt556.2.2.2.2.2.2.2.2.2.2.2.2.2.2.2.2.2.2.2.2.2.2.1 bt556.2.2.2.2.2.2.2.2.2.2.2.2.2.2.2.2.2.2.2.2.2.2.2.1 bt556.2.2.2.2.2.2.2.2.2.2.2.2.2.2.2.2.2.2.2.2.2.2.2.2.1 bt556.2.2.2.2.2.2.2.2.2.2.2.2.2.2.2.2.2.2.2.2.2.2.2.2.2.1 bt556.2.2.2.2.2.2.2.2.2.2.2.2.2.2.2.2.2.2.2.2.2.2.2.2.2.2 bt583.1 bt583.2).bind fun bt585 => (if ((bt585.1 == bt554.1) = true) then (if ((bt585.2 == bt554.2) = true) then (some true) else (some false)) else (some false)))))))))

theorem laws_FnExactKeepsConstraint.mono : ∀ a0 a1 a2 a3 a4 a5 a6 a7 a8 a9 a10 a11 a12 a13 a14 a15 a16 a17 a18 a19 a20 a21 a22 a23 a24 a25 a26 a27 a28 k, LeO (laws_FnExactKeepsConstraint.f k a0 a1 a2 a3 a4 a5 a6 a7 a8 a9 a10 a11 a12 a13 a14 a15 a16 a17 a18 a19 a20 a21 a22 a23 a24 a25 a26 a27 a28) (laws_FnExactKeepsConstraint.f (k + 1) a0 a1 a2 a3 a4 a5 a6 a7 a8 a9 a10 a11 a12 a13 a14 a15 a16 a17 a18 a19 a20 a21 a22 a23 a24 a25 a26 a27 a28) := by
  intro a0 a1 a2 a3 a4 a5 a6 a7 a8 a9 a10 a11 a12 a13 a14 a15 a16 a17 a18 a19 a20 a21 a22 a23 a24 a25 a26 a27 a28 k
  unfold laws_FnExactKeepsConstraint.f
  repeat' first
      | (with_reducible exact impl_KeepsConstraint.mono _ _ _ _ _ _ _ _ _ _ _ _ _ _ _ _ _ _ _ _ _ _ _ _ _ _ _ _ _ _)
      | (with_reducible exact spec_KeepsConstraint.mono _ _ _ _ _ _ _ _ _ _ _ _ _ _ _ _ _ _ _ _ _ _ _ _ _ _ _ _ _ _)
      | (with_reducible exact LeO.refl _)
      | (with_reducible exact LeO.none _)
      | (with_reducible refine LeO.ite ?_ ?_)
      | (with_reducible refine LeO.bind ?_ (fun _ => ?_))
      | exact impl_KeepsConstraint.mono _ _ _ _ _ _ _ _ _ _ _ _ _ _ _ _ _ _ _ _ _ _ _ _ _ _ _ _ _ _
      | exact spec_KeepsConstraint.mono _ _ _ _ _ _ _ _ _ _ _ _ _ _ _ _ _ _ _ _ _ _ _ _ _ _ _ _ _ _
      | exact LeO.none _
      | refine LeO.ite ?_ ?_
      | refine LeO.bind ?_ (fun _ => ?_)

def laws_FnExactKeepsConstraint.e (k : Nat) : Refl.Ent G := ⟨5, [(.agg gL1), (.agg [li, li])], .one (.c .bool), fun x => laws_FnExactKeepsConstraint.f k x.1 x.2.1 x.2.2.1 x.2.2.2.1 x.2.2.2.2.1 x.2.2.2.2.2.1 x.2.2.2.2.2.2.1 x.2.2.2.2.2.2.2.1 x.2.2.2.2.2.2.2.2.1 x.2.2.2.2.2.2.2.2.2.1 x.2.2.2.2.2.2.2.2.2.2.1 x.2.2.2.2.2.2.2.2.2.2.2.1 x.2.2.2.2.2.2.2.2.2.2.2.2.1 x.2.2.2.2.2.2.2.2.2.2.2.2.2.1 x.2.2.2.2.2.2.2.2.2.2.2.2.2.2.1 x.2.2.2.2.2.2.2.2.2.2.2.2.2.2.2.1 x.2.2.2.2.2.2.2.2.2.2.2.2.2.2.2.2.1 x.2.2.2.2.2.2.2.2.2.2.2.2.2.2.2.2.2.1 x.2.2.2.2.2.2.2.2.2.2.2.2.2.2.2.2.2.2.1 x.2.2.2.2.2.2.2.2.2.2.2.2.2.2.2.2.2.2.2.1 x.2.2.2.2.2.2.2.2.2.2.2.2.2.2.2.2.2.2.2.2.1 x.2.2.2.2.2.2.2.2.2.2.2.2.2.2.2.2.2.2.2.2.2.1 x.2.2.2.2.2.2.2.2.2.2.2.2.2.2.2.2.2.2.2.2.2.2.1 x.2.2.2.2.2.2.2.2.2.2.2.2.2.2.2.2.2.2.2.2.2.2.2.1 x.2.2.2.2.2.2.2.2.2.2.2.2.2.2.2.2.2.2.2.2.2.2.2.2.1 x.2.2.2.2.2.2.2.2.2.2.2.2.2.2.2.2.2.2.2.2.2.2.2.2.2.1 x.2.2.2.2.2.2.2.2.2.2.2.2.2.2.2.2.2.2.2.2.2.2.2.2.2.2.1 x.2.2.2.2.2.2.2.2.2.2.2.2.2.2.2.2.2.2.2.2.2.2.2.2.2.2.2.1 x.2.2.2.2.2.2.2.2.2.2.2.2.2.2.2.2.2.2.2.2.2.2.2.2.2.2.2.2⟩
theorem laws_FnExactKeepsConstraint.ok (k : Nat) : Refl.EntOK Tryz.prog (laws_FnExactKeepsConstraint.e k) := Refl.ent_ok 1000000 k GC (fun k => [laws_szSign.e k, laws_toSign.e k, laws_toConstraint.e k, spec_KeepsConstraint.e k, impl_KeepsConstraint.e k]) (fun k => ⟨laws_szSign.ok k, laws_toSign.ok k, laws_toConstraint.ok k, spec_KeepsConstraint.ok k, impl_KeepsConstraint.ok k, trivial⟩) Tryz.func5 (by kernel_rfl) [] (ps := []) (by kernel_rfl) trivial (fun x => by kernel_rfl)

theorem laws_FnExactKeepsConstraint.calls (k : Nat) (a0_0 : Int) (a0_1 : Int) (a0_2 : Int) (a0_3 : Int) (a0_4 : Int) (a0_5 : Bool) (a0_6 : Int) (a0_7 : Int) (a0_8 : Int) (a0_9 : Int) (a0_10 : Bool) (a0_11 : ByteArray) (a0_12 : Int) (a0_13 : Bool) (a0_14 : Int) (a0_15 : Int) (a0_16 : Int) (a0_17 : Int) (a0_18 : Int) (a0_19 : Bool) (a0_20 : Int) (a0_21 : Int) (a0_22 : Int) (a0_23 : Int) (a0_24 : Bool) (a0_25 : ByteArray) (a0_26 : Int) (a1_0 : Int) (a1_1 : Int) (r : Bool) (w : World) (h : laws_FnExactKeepsConstraint.f k a0_0 a0_1 a0_2 a0_3 a0_4 a0_5 a0_6 a0_7 a0_8 a0_9 a0_10 a0_11 a0_12 a0_13 a0_14 a0_15 a0_16 a0_17 a0_18 a0_19 a0_20 a0_21 a0_22 a0_23 a0_24 a0_25 a0_26 a1_0 a1_1 = some r) :
    Calls Tryz.prog 5 #[.agg #[.int .i64 a0_0, .int .i64 a0_1, .int .i64 a0_2, .int .i64 a0_3, .int .i64 a0_4, .bool a0_5, .int .i64 a0_6, .int .i64 a0_7, .int .i64 a0_8, .int .i64 a0_9, .bool a0_10, .string a0_11, .int .i64 a0_12, .bool a0_13, .int .i64 a0_14, .int .i64 a0_15, .int .i64 a0_16, .int .i64 a0_17, .int .i64 a0_18, .bool a0_19, .int .i64 a0_20, .int .i64 a0_21, .int .i64 a0_22, .int .i64 a0_23, .bool a0_24, .string a0_25, .int .i64 a0_26], .agg #[.int .i64 a1_0, .int .i64 a1_1]] w fun e w' => e = .returned (.bool r) ∧ Below w.heap.size w w' :=
 Refl.EntOK.flat (laws_FnExactKeepsConstraint.ok k) (a0_0, a0_1, a0_2, a0_3, a0_4, a0_5, a0_6, a0_7, a0_8, a0_9, a0_10, a0_11, a0_12, a0_13, a0_14, a0_15, a0_16, a0_17, a0_18, a0_19, a0_20, a0_21, a0_22, a0_23, a0_24, a0_25, a0_26, a1_0, a1_1) r h (by kernel_rfl) (by kernel_rfl) (by kernel_rfl) (by kernel_rfl) w

end Go.Proofs.YtmbffgkejknfaaaGreatDoor.PA
