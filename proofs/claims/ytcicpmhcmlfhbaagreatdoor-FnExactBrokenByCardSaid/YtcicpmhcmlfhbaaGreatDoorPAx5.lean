-- Written by a program of this session (wip/tools/myprint.py). Not trusted: Lean checks it.
import Derived.Test.YtcicpmhcmlfhbaaGreatDoorCtx
import Derived.Test.YtcicpmhcmlfhbaaGreatDoorPAx1
import Derived.Test.YtcicpmhcmlfhbaaGreatDoorPAx4
namespace Go.Proofs.YtcicpmhcmlfhbaaGreatDoor.PA
open Go.RowKit Go.Proofs.YtcicpmhcmlfhbaaGreatDoorW.PrintWords Go.Proofs.YtcicpmhcmlfhbaaGreatDoorW.PrintLast Go.Proofs.YtcicpmhcmlfhbaaGreatDoorW.PrintMore
attribute [local go_sem] max2_int min2_int max_two min_two max_three min_three max_four min_four   -- for this text's walks alone
set_option linter.unusedVariables false
set_option linter.unusedSimpArgs false

attribute [local go_sem high] eqA23
/-! ### spec_ruGood: function 120 -/

def spec_ruGood.f (a0_0 : Int) (a0_1 : Int) : Option (Bool) := (spec_l1In.f a0_0 0 4).bind fun t210 => (if t210 = true then ((spec_ruMost.f a0_0).bind fun t211 => ((spec_l1In.f a0_1 0 t211).bind fun t212 => (if t212 = true then (if a0_0 = 3 then ((spec_l1In.f a0_1 0 3).bind fun t213 => (some t213)) else (some true)) else (some false)))) else (some false))

def spec_ruGood.e (k : Nat) : Refl.Ent G := ⟨120, [(.agg [li, li])], .one (.c .bool), fun x => spec_ruGood.f x.1 x.2⟩
theorem spec_ruGood.ok (k : Nat) : Refl.EntOK Tryz.prog (spec_ruGood.e k) := Refl.ent_ok 1000000 k GC (fun k => [spec_l1In.e k, spec_ruMost.e k]) (fun k => ⟨spec_l1In.ok k, spec_ruMost.ok k, trivial⟩) Tryz.func120 (by kernel_rfl) [] (ps := []) (by kernel_rfl) trivial (fun x => by kernel_rfl)

/-! ### spec_ruAll: function 70 -/

def spec_ruAll.l0 : Nat → List (S112) → List (S112) → Int → Int → Option (Bool)
  | 0, _, _, _, _ => none
  | k + 1, x0, x5, x6, x7 => if x7 < x6 then (if 0 ≤ x7 then (if x7 < (x5.length : Int) then ((spec_ruGood.f ((rd_T112 x5 x7).f0) ((rd_T112 x5 x7).f1)).bind fun t216 => (if t216 = true then (spec_ruAll.l0 k x0 x5 x6 (wrap64 (x7 + 1))) else (some false))) else (none)) else (none)) else (some (decide ((x0.length : Int) ≤ 10)))

def spec_ruAll.f (k : Nat) (l0 : List (S112)) : Option (Bool) := spec_ruAll.l0 k l0 l0 (l0.length : Int) 0

theorem spec_ruAll.mono_l : ∀ k, (∀ y0 y1 y2 y3, LeO (spec_ruAll.l0 k y0 y1 y2 y3) (spec_ruAll.l0 (k + 1) y0 y1 y2 y3))
  | 0 => fun _ _ _ _ r h => by simp [spec_ruAll.l0] at h
  | k + 1 => by
    have ih0 := spec_ruAll.mono_l k
    · intro y0 y1 y2 y3
      unfold spec_ruAll.l0
      repeat' first
      | (with_reducible exact ih0 _ _ _ _)
      | (with_reducible exact LeO.refl _)
      | (with_reducible exact LeO.none _)
      | (with_reducible refine LeO.ite ?_ ?_)
      | (with_reducible refine LeO.bind ?_ (fun _ => ?_))
      | exact ih0 _ _ _ _
      | exact LeO.none _
      | refine LeO.ite ?_ ?_
      | refine LeO.bind ?_ (fun _ => ?_)

theorem spec_ruAll.mono : ∀ a0 k, LeO (spec_ruAll.f k a0) (spec_ruAll.f (k + 1) a0) := by
  intro a0 k
  have ih0 := spec_ruAll.mono_l k
  unfold spec_ruAll.f
  repeat' first
      | (with_reducible exact ih0 _ _ _ _)
      | (with_reducible exact LeO.refl _)
      | (with_reducible exact LeO.none _)
      | (with_reducible refine LeO.ite ?_ ?_)
      | (with_reducible refine LeO.bind ?_ (fun _ => ?_))
      | exact ih0 _ _ _ _
      | exact LeO.none _
      | refine LeO.ite ?_ ?_
      | refine LeO.bind ?_ (fun _ => ?_)

def spec_ruAll.e (k : Nat) : Refl.Ent G := ⟨70, [(.c (.row 112 false))], .one (.c .bool), fun x => spec_ruAll.f k x⟩
def spec_ruAll.pl0 : Refl.Pn G (Refl.PT G (spec_ruAll.e 0).ol) := ⟨true, 0, ⟨[(0, .v (.c (.row 112 false))), (5, .v (.c (.row 112 false))), (6, .v (.c li)), (7, .v (.c li)), (2, .k (Value.bool false))], []⟩, fun k x => spec_ruAll.l0 k x.1 x.2.1 x.2.2.1 x.2.2.2⟩
theorem spec_ruAll.ok (k : Nat) : Refl.EntOK Tryz.prog (spec_ruAll.e k) := Refl.ent_ok 1000000 k GC (fun k => [spec_ruGood.e k]) (fun k => ⟨spec_ruGood.ok k, trivial⟩) Tryz.func70 (by kernel_rfl) [spec_ruAll.pl0] (ps := [spec_ruAll.pl0]) (by kernel_rfl) ⟨⟨fun x => by kernel_rfl, fun k x => by kernel_rfl⟩, trivial⟩ (fun x => by kernel_rfl)

/-! ### spec_l1Most: function 193 -/

def spec_l1Most.f (a0 : Int) (a1 : Int) : Option (Int) := if a0 > a1 then (some a0) else (some a1)

def spec_l1Most.e (k : Nat) : Refl.Ent G := ⟨193, [(.c li), (.c li)], .one (.c li), fun x => spec_l1Most.f x.1 x.2⟩
theorem spec_l1Most.ok (k : Nat) : Refl.EntOK Tryz.prog (spec_l1Most.e k) := Refl.ent_ok 1000000 k GC (fun k => []) (fun k => trivial) Tryz.func193 (by kernel_rfl) [] (ps := []) (by kernel_rfl) trivial (fun x => by kernel_rfl)

/-! ### spec_ruSteps: function 165 -/

def spec_ruSteps.f (k : Nat) (a0_0 : Int) (a0_1 : Int) (a0_2 : Int) (a0_3 : Int) (a0_4 : Int) (a0_5 : Bool) (a0_6 : Int) (a0_7 : Int) (a0_8 : Int) (a0_9 : Int) (a0_10 : Bool) (a0_11 : ByteArray) (a0_12 : Int) (a0_13 : Bool) (a0_14 : Int) (a0_15 : Int) (a0_16 : Int) (a0_17 : Int) (a0_18 : Int) (a0_19 : Bool) (a0_20 : Int) (a0_21 : Int) (a0_22 : Int) (a0_23 : Int) (a0_24 : Bool) (a0_25 : ByteArray) (a0_26 : Int) : Option (Int) := (spec_mvAll.f k a0_11 a0_12).bind fun t218 => ((spec_mvAll.f k a0_25 a0_26).bind fun t219 => ((spec_l1Most.f (t218.size : Int) (t219.size : Int)).bind fun t220 => (some t220)))

theorem spec_ruSteps.mono : ∀ a0 a1 a2 a3 a4 a5 a6 a7 a8 a9 a10 a11 a12 a13 a14 a15 a16 a17 a18 a19 a20 a21 a22 a23 a24 a25 a26 k, LeO (spec_ruSteps.f k a0 a1 a2 a3 a4 a5 a6 a7 a8 a9 a10 a11 a12 a13 a14 a15 a16 a17 a18 a19 a20 a21 a22 a23 a24 a25 a26) (spec_ruSteps.f (k + 1) a0 a1 a2 a3 a4 a5 a6 a7 a8 a9 a10 a11 a12 a13 a14 a15 a16 a17 a18 a19 a20 a21 a22 a23 a24 a25 a26) := by
  intro a0 a1 a2 a3 a4 a5 a6 a7 a8 a9 a10 a11 a12 a13 a14 a15 a16 a17 a18 a19 a20 a21 a22 a23 a24 a25 a26 k
  unfold spec_ruSteps.f
  repeat' first
      | (with_reducible exact spec_mvAll.mono _ _ _)
      | (with_reducible exact LeO.refl _)
      | (with_reducible exact LeO.none _)
      | (with_reducible refine LeO.ite ?_ ?_)
      | (with_reducible refine LeO.bind ?_ (fun _ => ?_))
      | exact spec_mvAll.mono _ _ _
      | exact LeO.none _
      | refine LeO.ite ?_ ?_
      | refine LeO.bind ?_ (fun _ => ?_)

def spec_ruSteps.e (k : Nat) : Refl.Ent G := ⟨165, [(.agg gL1)], .one (.c li), fun x => spec_ruSteps.f k x.1 x.2.1 x.2.2.1 x.2.2.2.1 x.2.2.2.2.1 x.2.2.2.2.2.1 x.2.2.2.2.2.2.1 x.2.2.2.2.2.2.2.1 x.2.2.2.2.2.2.2.2.1 x.2.2.2.2.2.2.2.2.2.1 x.2.2.2.2.2.2.2.2.2.2.1 x.2.2.2.2.2.2.2.2.2.2.2.1 x.2.2.2.2.2.2.2.2.2.2.2.2.1 x.2.2.2.2.2.2.2.2.2.2.2.2.2.1 x.2.2.2.2.2.2.2.2.2.2.2.2.2.2.1 x.2.2.2.2.2.2.2.2.2.2.2.2.2.2.2.1 x.2.2.2.2.2.2.2.2.2.2.2.2.2.2.2.2.1 x.2.2.2.2.2.2.2.2.2.2.2.2.2.2.2.2.2.1 x.2.2.2.2.2.2.2.2.2.2.2.2.2.2.2.2.2.2.1 x.2.2.2.2.2.2.2.2.2.2.2.2.2.2.2.2.2.2.2.1 x.2.2.2.2.2.2.2.2.2.2.2.2.2.2.2.2.2.2.2.2.1 x.2.2.2.2.2.2.2.2.2.2.2.2.2.2.2.2.2.2.2.2.2.1 x.2.2.2.2.2.2.2.2.2.2.2.2.2.2.2.2.2.2.2.2.2.2.1 x.2.2.2.2.2.2.2.2.2.2.2.2.2.2.2.2.2.2.2.2.2.2.2.1 x.2.2.2.2.2.2.2.2.2.2.2.2.2.2.2.2.2.2.2.2.2.2.2.2.1 x.2.2.2.2.2.2.2.2.2.2.2.2.2.2.2.2.2.2.2.2.2.2.2.2.2.1 x.2.2.2.2.2.2.2.2.2.2.2.2.2.2.2.2.2.2.2.2.2.2.2.2.2.2⟩
theorem spec_ruSteps.ok (k : Nat) : Refl.EntOK Tryz.prog (spec_ruSteps.e k) := Refl.ent_ok 1000000 k GC (fun k => [spec_mvAll.e k, spec_l1Most.e k]) (fun k => ⟨spec_mvAll.ok k, spec_l1Most.ok k, trivial⟩) Tryz.func165 (by kernel_rfl) [] (ps := []) (by kernel_rfl) trivial (fun x => by kernel_rfl)

/-! ### spec_ruOpen: function 166 -/

def spec_ruOpen.l0 : Nat → Int → List Int → Int → Int → Option (Int)
  | 0, _, _, _, _ => none
  | k + 1, x3, x9, x10, x11 => if x11 < x10 then (if 0 ≤ x11 then (if x11 < (x9.length : Int) then (if (rd x9 x11) = 0 then (spec_ruOpen.l0 k (wrap64 (x3 + 1)) x9 x10 (wrap64 (x11 + 1))) else (spec_ruOpen.l0 k x3 x9 x10 (wrap64 (x11 + 1)))) else (none)) else (none)) else (some x3)

def spec_ruOpen.f (k : Nat) (a0_0 : Int) (a0_1 : Int) (a0_2 : Int) (a0_3 : Int) (a0_4 : Int) (a0_5 : Bool) (a0_6 : Int) (a0_7 : Int) (a0_8 : Int) (a0_9 : Int) (a0_10 : Bool) (a0_11 : ByteArray) (a0_12 : Int) (a0_13 : Bool) (a0_14 : Int) (a0_15 : Int) (a0_16 : Int) (a0_17 : Int) (a0_18 : Int) (a0_19 : Bool) (a0_20 : Int) (a0_21 : Int) (a0_22 : Int) (a0_23 : Int) (a0_24 : Bool) (a0_25 : ByteArray) (a0_26 : Int) : Option (Int) := (spec_shFingers.f a0_0 a0_1 a0_2 a0_3 a0_4 a0_5).bind fun t222 => (spec_ruOpen.l0 k 0 t222 (t222.length : Int) 0)

theorem spec_ruOpen.mono_l : ∀ k, (∀ y0 y1 y2 y3, LeO (spec_ruOpen.l0 k y0 y1 y2 y3) (spec_ruOpen.l0 (k + 1) y0 y1 y2 y3))
  | 0 => fun _ _ _ _ r h => by simp [spec_ruOpen.l0] at h
  | k + 1 => by
    have ih0 := spec_ruOpen.mono_l k
    · intro y0 y1 y2 y3
      unfold spec_ruOpen.l0
      repeat' first
      | (with_reducible exact ih0 _ _ _ _)
      | (with_reducible exact LeO.refl _)
      | (with_reducible exact LeO.none _)
      | (with_reducible refine LeO.ite ?_ ?_)
      | (with_reducible refine LeO.bind ?_ (fun _ => ?_))
      | exact ih0 _ _ _ _
      | exact LeO.none _
      | refine LeO.ite ?_ ?_
      | refine LeO.bind ?_ (fun _ => ?_)

theorem spec_ruOpen.mono : ∀ a0 a1 a2 a3 a4 a5 a6 a7 a8 a9 a10 a11 a12 a13 a14 a15 a16 a17 a18 a19 a20 a21 a22 a23 a24 a25 a26 k, LeO (spec_ruOpen.f k a0 a1 a2 a3 a4 a5 a6 a7 a8 a9 a10 a11 a12 a13 a14 a15 a16 a17 a18 a19 a20 a21 a22 a23 a24 a25 a26) (spec_ruOpen.f (k + 1) a0 a1 a2 a3 a4 a5 a6 a7 a8 a9 a10 a11 a12 a13 a14 a15 a16 a17 a18 a19 a20 a21 a22 a23 a24 a25 a26) := by
  intro a0 a1 a2 a3 a4 a5 a6 a7 a8 a9 a10 a11 a12 a13 a14 a15 a16 a17 a18 a19 a20 a21 a22 a23 a24 a25 a26 k
  have ih0 := spec_ruOpen.mono_l k
  unfold spec_ruOpen.f
  repeat' first
      | (with_reducible exact ih0 _ _ _ _)
      | (with_reducible exact LeO.refl _)
      | (with_reducible exact LeO.none _)
      | (with_reducible refine LeO.ite ?_ ?_)
      | (with_reducible refine LeO.bind ?_ (fun _ => ?_))
      | exact ih0 _ _ _ _
      | exact LeO.none _
      | refine LeO.ite ?_ ?_
      | refine LeO.bind ?_ (fun _ => ?_)

def spec_ruOpen.e (k : Nat) : Refl.Ent G := ⟨166, [(.agg gL1)], .one (.c li), fun x => spec_ruOpen.f k x.1 x.2.1 x.2.2.1 x.2.2.2.1 x.2.2.2.2.1 x.2.2.2.2.2.1 x.2.2.2.2.2.2.1 x.2.2.2.2.2.2.2.1 x.2.2.2.2.2.2.2.2.1 x.2.2.2.2.2.2.2.2.2.1 x.2.2.2.2.2.2.2.2.2.2.1 x.2.2.2.2.2.2.2.2.2.2.2.1 x.2.2.2.2.2.2.2.2.2.2.2.2.1 x.2.2.2.2.2.2.2.2.2.2.2.2.2.1 x.2.2.2.2.2.2.2.2.2.2.2.2.2.2.1 x.2.2.2.2.2.2.2.2.2.2.2.2.2.2.2.1 x.2.2.2.2.2.2.2.2.2.2.2.2.2.2.2.2.1 x.2.2.2.2.2.2.2.2.2.2.2.2.2.2.2.2.2.1 x.2.2.2.2.2.2.2.2.2.2.2.2.2.2.2.2.2.2.1 x.2.2.2.2.2.2.2.2.2.2.2.2.2.2.2.2.2.2.2.1 x.2.2.2.2.2.2.2.2.2.2.2.2.2.2.2.2.2.2.2.2.1 x.2.2.2.2.2.2.2.2.2.2.2.2.2.2.2.2.2.2.2.2.2.1 x.2.2.2.2.2.2.2.2.2.2.2.2.2.2.2.2.2.2.2.2.2.2.1 x.2.2.2.2.2.2.2.2.2.2.2.2.2.2.2.2.2.2.2.2.2.2.2.1 x.2.2.2.2.2.2.2.2.2.2.2.2.2.2.2.2.2.2.2.2.2.2.2.2.1 x.2.2.2.2.2.2.2.2.2.2.2.2.2.2.2.2.2.2.2.2.2.2.2.2.2.1 x.2.2.2.2.2.2.2.2.2.2.2.2.2.2.2.2.2.2.2.2.2.2.2.2.2.2⟩
def spec_ruOpen.pl0 : Refl.Pn G (Refl.PT G (spec_ruOpen.e 0).ol) := ⟨true, 0, ⟨[(3, .v (.c li)), (9, .v (.c (.row 3 false))), (10, .v (.c li)), (11, .v (.c li)), (2, .k (Value.int IntKind.i64 0))], []⟩, fun k x => spec_ruOpen.l0 k x.1 x.2.1 x.2.2.1 x.2.2.2⟩
theorem spec_ruOpen.ok (k : Nat) : Refl.EntOK Tryz.prog (spec_ruOpen.e k) := Refl.ent_ok 1000000 k GC (fun k => [spec_shFingers.e k]) (fun k => ⟨spec_shFingers.ok k, trivial⟩) Tryz.func166 (by kernel_rfl) [spec_ruOpen.pl0] (ps := [spec_ruOpen.pl0]) (by kernel_rfl) ⟨⟨fun x => by kernel_rfl, fun k x => by kernel_rfl⟩, trivial⟩ (fun x => by kernel_rfl)

/-! ### spec_siKind: function 167 -/

def spec_siKind.f (a0_0 : Int) (a0_1 : Int) (a0_2 : Int) (a0_3 : Int) (a0_4 : Int) (a0_5 : Bool) (a0_6 : Int) (a0_7 : Int) (a0_8 : Int) (a0_9 : Int) (a0_10 : Bool) (a0_11 : ByteArray) (a0_12 : Int) (a0_13 : Bool) (a0_14 : Int) (a0_15 : Int) (a0_16 : Int) (a0_17 : Int) (a0_18 : Int) (a0_19 : Bool) (a0_20 : Int) (a0_21 : Int) (a0_22 : Int) (a0_23 : Int) (a0_24 : Bool) (a0_25 : ByteArray) (a0_26 : Int) : Option (Int) := if a0_13 = true then (if a0_25.toList = ([] : List UInt8) then (if (a0_0 == a0_14 && (a0_1 == a0_15 && (a0_2 == a0_16 && (a0_3 == a0_17 && (a0_4 == a0_18 && (a0_5 == a0_19)))))) = true then (some 2) else (some 3)) else (some 1)) else (some 0)

def spec_siKind.e (k : Nat) : Refl.Ent G := ⟨167, [(.agg gL1)], .one (.c li), fun x => spec_siKind.f x.1 x.2.1 x.2.2.1 x.2.2.2.1 x.2.2.2.2.1 x.2.2.2.2.2.1 x.2.2.2.2.2.2.1 x.2.2.2.2.2.2.2.1 x.2.2.2.2.2.2.2.2.1 x.2.2.2.2.2.2.2.2.2.1 x.2.2.2.2.2.2.2.2.2.2.1 x.2.2.2.2.2.2.2.2.2.2.2.1 x.2.2.2.2.2.2.2.2.2.2.2.2.1 x.2.2.2.2.2.2.2.2.2.2.2.2.2.1 x.2.2.2.2.2.2.2.2.2.2.2.2.2.2.1 x.2.2.2.2.2.2.2.2.2.2.2.2.2.2.2.1 x.2.2.2.2.2.2.2.2.2.2.2.2.2.2.2.2.1 x.2.2.2.2.2.2.2.2.2.2.2.2.2.2.2.2.2.1 x.2.2.2.2.2.2.2.2.2.2.2.2.2.2.2.2.2.2.1 x.2.2.2.2.2.2.2.2.2.2.2.2.2.2.2.2.2.2.2.1 x.2.2.2.2.2.2.2.2.2.2.2.2.2.2.2.2.2.2.2.2.1 x.2.2.2.2.2.2.2.2.2.2.2.2.2.2.2.2.2.2.2.2.2.1 x.2.2.2.2.2.2.2.2.2.2.2.2.2.2.2.2.2.2.2.2.2.2.1 x.2.2.2.2.2.2.2.2.2.2.2.2.2.2.2.2.2.2.2.2.2.2.2.1 x.2.2.2.2.2.2.2.2.2.2.2.2.2.2.2.2.2.2.2.2.2.2.2.2.1 x.2.2.2.2.2.2.2.2.2.2.2.2.2.2.2.2.2.2.2.2.2.2.2.2.2.1 x.2.2.2.2.2.2.2.2.2.2.2.2.2.2.2.2.2.2.2.2.2.2.2.2.2.2⟩
theorem spec_siKind.ok (k : Nat) : Refl.EntOK Tryz.prog (spec_siKind.e k) := Refl.ent_ok 1000000 k GC (fun k => []) (fun k => trivial) Tryz.func167 (by kernel_rfl) [] (ps := []) (by kernel_rfl) trivial (fun x => by kernel_rfl)

/-! ### spec_ruKeeps: function 121 -/

def spec_ruKeeps.f (k : Nat) (a0_0 : Int) (a0_1 : Int) (a0_2 : Int) (a0_3 : Int) (a0_4 : Int) (a0_5 : Bool) (a0_6 : Int) (a0_7 : Int) (a0_8 : Int) (a0_9 : Int) (a0_10 : Bool) (a0_11 : ByteArray) (a0_12 : Int) (a0_13 : Bool) (a0_14 : Int) (a0_15 : Int) (a0_16 : Int) (a0_17 : Int) (a0_18 : Int) (a0_19 : Bool) (a0_20 : Int) (a0_21 : Int) (a0_22 : Int) (a0_23 : Int) (a0_24 : Bool) (a0_25 : ByteArray) (a0_26 : Int) (a1_0 : Int) (a1_1 : Int) : Option (Bool) := if a1_0 = 0 then ((spec_ruSteps.f k a0_0 a0_1 a0_2 a0_3 a0_4 a0_5 a0_6 a0_7 a0_8 a0_9 a0_10 a0_11 a0_12 a0_13 a0_14 a0_15 a0_16 a0_17 a0_18 a0_19 a0_20 a0_21 a0_22 a0_23 a0_24 a0_25 a0_26).bind fun t229 => (some (decide (t229 ≤ a1_1)))) else (if a1_0 = 1 then (if a0_8 = a1_1 then (some false) else (if a0_13 = true then (some (a0_22 != a1_1)) else (some true))) else (if a1_0 = 2 then ((spec_ruOpen.f k a0_0 a0_1 a0_2 a0_3 a0_4 a0_5 a0_6 a0_7 a0_8 a0_9 a0_10 a0_11 a0_12 a0_13 a0_14 a0_15 a0_16 a0_17 a0_18 a0_19 a0_20 a0_21 a0_22 a0_23 a0_24 a0_25 a0_26).bind fun t230 => (some (decide (t230 ≥ a1_1)))) else (if a1_0 = 3 then ((spec_siKind.f a0_0 a0_1 a0_2 a0_3 a0_4 a0_5 a0_6 a0_7 a0_8 a0_9 a0_10 a0_11 a0_12 a0_13 a0_14 a0_15 a0_16 a0_17 a0_18 a0_19 a0_20 a0_21 a0_22 a0_23 a0_24 a0_25 a0_26).bind fun t231 => (some (t231 != a1_1))) else (some (decide (a0_8 ≤ a1_1))))))

theorem spec_ruKeeps.mono : ∀ a0 a1 a2 a3 a4 a5 a6 a7 a8 a9 a10 a11 a12 a13 a14 a15 a16 a17 a18 a19 a20 a21 a22 a23 a24 a25 a26 a27 a28 k, LeO (spec_ruKeeps.f k a0 a1 a2 a3 a4 a5 a6 a7 a8 a9 a10 a11 a12 a13 a14 a15 a16 a17 a18 a19 a20 a21 a22 a23 a24 a25 a26 a27 a28) (spec_ruKeeps.f (k + 1) a0 a1 a2 a3 a4 a5 a6 a7 a8 a9 a10 a11 a12 a13 a14 a15 a16 a17 a18 a19 a20 a21 a22 a23 a24 a25 a26 a27 a28) := by
  intro a0 a1 a2 a3 a4 a5 a6 a7 a8 a9 a10 a11 a12 a13 a14 a15 a16 a17 a18 a19 a20 a21 a22 a23 a24 a25 a26 a27 a28 k
  unfold spec_ruKeeps.f
  repeat' first
      | (with_reducible exact spec_ruOpen.mono _ _ _ _ _ _ _ _ _ _ _ _ _ _ _ _ _ _ _ _ _ _ _ _ _ _ _ _)
      | (with_reducible exact spec_ruSteps.mono _ _ _ _ _ _ _ _ _ _ _ _ _ _ _ _ _ _ _ _ _ _ _ _ _ _ _ _)
      | (with_reducible exact LeO.refl _)
      | (with_reducible exact LeO.none _)
      | (with_reducible refine LeO.ite ?_ ?_)
      | (with_reducible refine LeO.bind ?_ (fun _ => ?_))
      | exact spec_ruOpen.mono _ _ _ _ _ _ _ _ _ _ _ _ _ _ _ _ _ _ _ _ _ _ _ _ _ _ _ _
      | exact spec_ruSteps.mono _ _ _ _ _ _ _ _ _ _ _ _ _ _ _ _ _ _ _ _ _ _ _ _ _ _ _ _
      | exact LeO.none _
      | refine LeO.ite ?_ ?_
      | refine LeO.bind ?_ (fun _ => ?_)

def spec_ruKeeps.e (k : Nat) : Refl.Ent G := ⟨121, [(.agg gL1), (.agg [li, li])], .one (.c .bool), fun x => spec_ruKeeps.f k x.1 x.2.1 x.2.2.1 x.2.2.2.1 x.2.2.2.2.1 x.2.2.2.2.2.1 x.2.2.2.2.2.2.1 x.2.2.2.2.2.2.2.1 x.2.2.2.2.2.2.2.2.1 x.2.2.2.2.2.2.2.2.2.1 x.2.2.2.2.2.2.2.2.2.2.1 x.2.2.2.2.2.2.2.2.2.2.2.1 x.2.2.2.2.2.2.2.2.2.2.2.2.1 x.2.2.2.2.2.2.2.2.2.2.2.2.2.1 x.2.2.2.2.2.2.2.2.2.2.2.2.2.2.1 x.2.2.2.2.2.2.2.2.2.2.2.2.2.2.2.1 x.2.2.2.2.2.2.2.2.2.2.2.2.2.2.2.2.1 x.2.2.2.2.2.2.2.2.2.2.2.2.2.2.2.2.2.1 x.2.2.2.2.2.2.2.2.2.2.2.2.2.2.2.2.2.2.1 x.2.2.2.2.2.2.2.2.2.2.2.2.2.2.2.2.2.2.2.1 x.2.2.2.2.2.2.2.2.2.2.2.2.2.2.2.2.2.2.2.2.1 x.2.2.2.2.2.2.2.2.2.2.2.2.2.2.2.2.2.2.2.2.2.1 x.2.2.2.2.2.2.2.2.2.2.2.2.2.2.2.2.2.2.2.2.2.2.1 x.2.2.2.2.2.2.2.2.2.2.2.2.2.2.2.2.2.2.2.2.2.2.2.1 x.2.2.2.2.2.2.2.2.2.2.2.2.2.2.2.2.2.2.2.2.2.2.2.2.1 x.2.2.2.2.2.2.2.2.2.2.2.2.2.2.2.2.2.2.2.2.2.2.2.2.2.1 x.2.2.2.2.2.2.2.2.2.2.2.2.2.2.2.2.2.2.2.2.2.2.2.2.2.2.1 x.2.2.2.2.2.2.2.2.2.2.2.2.2.2.2.2.2.2.2.2.2.2.2.2.2.2.2.1 x.2.2.2.2.2.2.2.2.2.2.2.2.2.2.2.2.2.2.2.2.2.2.2.2.2.2.2.2⟩
theorem spec_ruKeeps.ok (k : Nat) : Refl.EntOK Tryz.prog (spec_ruKeeps.e k) := Refl.ent_ok 1000000 k GC (fun k => [spec_ruSteps.e k, spec_ruOpen.e k, spec_siKind.e k]) (fun k => ⟨spec_ruSteps.ok k, spec_ruOpen.ok k, spec_siKind.ok k, trivial⟩) Tryz.func121 (by kernel_rfl) [] (ps := []) (by kernel_rfl) trivial (fun x => by kernel_rfl)

/-! ### spec_ruBroken: function 71 -/

def spec_ruBroken.l0 : Nat → List Int → List (S112) → Int → Int → Int → Int → Int → Int → Int → Bool → Int → Int → Int → Int → Bool → ByteArray → Int → Bool → Int → Int → Int → Int → Int → Bool → Int → Int → Int → Int → Bool → ByteArray → Int → Option (List Int)
  | 0, _, _, _, _, _, _, _, _, _, _, _, _, _, _, _, _, _, _, _, _, _, _, _, _, _, _, _, _, _, _, _ => none
  | k + 1, x5, x8, x9, x10, x233000, x233001, x233002, x233003, x233004, x233005, x233006, x233007, x233008, x233009, x233010, x233011, x233012, x233013, x233014, x233015, x233016, x233017, x233018, x233019, x233020, x233021, x233022, x233023, x233024, x233025, x233026 => if x10 < x9 then (if 0 ≤ x10 then (if x10 < (x8.length : Int) then ((spec_ruKeeps.f k x233000 x233001 x233002 x233003 x233004 x233005 x233006 x233007 x233008 x233009 x233010 x233011 x233012 x233013 x233014 x233015 x233016 x233017 x233018 x233019 x233020 x233021 x233022 x233023 x233024 x233025 x233026 ((rd_T112 x8 x10).f0) ((rd_T112 x8 x10).f1)).bind fun t235 => (if t235 = true then (spec_ruBroken.l0 k x5 x8 x9 (wrap64 (x10 + 1)) x233000 x233001 x233002 x233003 x233004 x233005 x233006 x233007 x233008 x233009 x233010 x233011 x233012 x233013 x233014 x233015 x233016 x233017 x233018 x233019 x233020 x233021 x233022 x233023 x233024 x233025 x233026) else (if x5.length < 17592186044416 then (spec_ruBroken.l0 k (x5 ++ [x10]) x8 x9 (wrap64 (x10 + 1)) x233000 x233001 x233002 x233003 x233004 x233005 x233006 x233007 x233008 x233009 x233010 x233011 x233012 x233013 x233014 x233015 x233016 x233017 x233018 x233019 x233020 x233021 x233022 x233023 x233024 x233025 x233026) else (none)))) else (none)) else (none)) else (some x5)

def spec_ruBroken.f (k : Nat) (a0_0 : Int) (a0_1 : Int) (a0_2 : Int) (a0_3 : Int) (a0_4 : Int) (a0_5 : Bool) (a0_6 : Int) (a0_7 : Int) (a0_8 : Int) (a0_9 : Int) (a0_10 : Bool) (a0_11 : ByteArray) (a0_12 : Int) (a0_13 : Bool) (a0_14 : Int) (a0_15 : Int) (a0_16 : Int) (a0_17 : Int) (a0_18 : Int) (a0_19 : Bool) (a0_20 : Int) (a0_21 : Int) (a0_22 : Int) (a0_23 : Int) (a0_24 : Bool) (a0_25 : ByteArray) (a0_26 : Int) (l1 : List (S112)) : Option (List Int) := spec_ruBroken.l0 k ([] : List Int) l1 (l1.length : Int) 0 a0_0 a0_1 a0_2 a0_3 a0_4 a0_5 a0_6 a0_7 a0_8 a0_9 a0_10 a0_11 a0_12 a0_13 a0_14 a0_15 a0_16 a0_17 a0_18 a0_19 a0_20 a0_21 a0_22 a0_23 a0_24 a0_25 a0_26

theorem spec_ruBroken.mono_l : ∀ k, (∀ y0 y1 y2 y3 y4 y5 y6 y7 y8 y9 y10 y11 y12 y13 y14 y15 y16 y17 y18 y19 y20 y21 y22 y23 y24 y25 y26 y27 y28 y29 y30, LeO (spec_ruBroken.l0 k y0 y1 y2 y3 y4 y5 y6 y7 y8 y9 y10 y11 y12 y13 y14 y15 y16 y17 y18 y19 y20 y21 y22 y23 y24 y25 y26 y27 y28 y29 y30) (spec_ruBroken.l0 (k + 1) y0 y1 y2 y3 y4 y5 y6 y7 y8 y9 y10 y11 y12 y13 y14 y15 y16 y17 y18 y19 y20 y21 y22 y23 y24 y25 y26 y27 y28 y29 y30))
  | 0 => fun _ _ _ _ _ _ _ _ _ _ _ _ _ _ _ _ _ _ _ _ _ _ _ _ _ _ _ _ _ _ _ r h => by simp [spec_ruBroken.l0] at h
  | k + 1 => by
    have ih0 := spec_ruBroken.mono_l k
    · intro y0 y1 y2 y3 y4 y5 y6 y7 y8 y9 y10 y11 y12 y13 y14 y15 y16 y17 y18 y19 y20 y21 y22 y23 y24 y25 y26 y27 y28 y29 y30
      unfold spec_ruBroken.l0
      repeat' first
      | (with_reducible exact ih0 _ _ _ _ _ _ _ _ _ _ _ _ _ _ _ _ _ _ _ _ _ _ _ _ _ _ _ _ _ _ _)
      | (with_reducible exact spec_ruKeeps.mono _ _ _ _ _ _ _ _ _ _ _ _ _ _ _ _ _ _ _ _ _ _ _ _ _ _ _ _ _ _)
      | (with_reducible exact LeO.refl _)
      | (with_reducible exact LeO.none _)
      | (with_reducible refine LeO.ite ?_ ?_)
      | (with_reducible refine LeO.bind ?_ (fun _ => ?_))
      | exact ih0 _ _ _ _ _ _ _ _ _ _ _ _ _ _ _ _ _ _ _ _ _ _ _ _ _ _ _ _ _ _ _
      | exact spec_ruKeeps.mono _ _ _ _ _ _ _ _ _ _ _ _ _ _ _ _ _ _ _ _ _ _ _ _ _ _ _ _ _ _
      | exact LeO.none _
      | refine LeO.ite ?_ ?_
      | refine LeO.bind ?_ (fun _ => ?_)

theorem spec_ruBroken.mono : ∀ a0 a1 a2 a3 a4 a5 a6 a7 a8 a9 a10 a11 a12 a13 a14 a15 a16 a17 a18 a19 a20 a21 a22 a23 a24 a25 a26 a27 k, LeO (spec_ruBroken.f k a0 a1 a2 a3 a4 a5 a6 a7 a8 a9 a10 a11 a12 a13 a14 a15 a16 a17 a18 a19 a20 a21 a22 a23 a24 a25 a26 a27) (spec_ruBroken.f (k + 1) a0 a1 a2 a3 a4 a5 a6 a7 a8 a9 a10 a11 a12 a13 a14 a15 a16 a17 a18 a19 a20 a21 a22 a23 a24 a25 a26 a27) := by
  intro a0 a1 a2 a3 a4 a5 a6 a7 a8 a9 a10 a11 a12 a13 a14 a15 a16 a17 a18 a19 a20 a21 a22 a23 a24 a25 a26 a27 k
  have ih0 := spec_ruBroken.mono_l k
  unfold spec_ruBroken.f
  repeat' first
      | (with_reducible exact ih0 _ _ _ _ _ _ _ _ _ _ _ _ _ _ _ _ _ _ _ _ _ _ _ _ _ _ _ _ _ _ _)
      | (with_reducible exact spec_ruKeeps.mono _ _ _ _ _ _ _ _ _ _ _ _ _ _ _ _ _ _ _ _ _ _ _ _ _ _ _ _ _ _)
      | (with_reducible exact LeO.refl _)
      | (with_reducible exact LeO.none _)
      | (with_reducible refine LeO.ite ?_ ?_)
      | (with_reducible refine LeO.bind ?_ (fun _ => ?_))
      | exact ih0 _ _ _ _ _ _ _ _ _ _ _ _ _ _ _ _ _ _ _ _ _ _ _ _ _ _ _ _ _ _ _
      | exact spec_ruKeeps.mono _ _ _ _ _ _ _ _ _ _ _ _ _ _ _ _ _ _ _ _ _ _ _ _ _ _ _ _ _ _
      | exact LeO.none _
      | refine LeO.ite ?_ ?_
      | refine LeO.bind ?_ (fun _ => ?_)

def spec_ruBroken.e (k : Nat) : Refl.Ent G := ⟨71, [(.agg gL1), (.c (.row 112 false))], .one (.c (.own 3)), fun x => spec_ruBroken.f k x.1 x.2.1 x.2.2.1 x.2.2.2.1 x.2.2.2.2.1 x.2.2.2.2.2.1 x.2.2.2.2.2.2.1 x.2.2.2.2.2.2.2.1 x.2.2.2.2.2.2.2.2.1 x.2.2.2.2.2.2.2.2.2.1 x.2.2.2.2.2.2.2.2.2.2.1 x.2.2.2.2.2.2.2.2.2.2.2.1 x.2.2.2.2.2.2.2.2.2.2.2.2.1 x.2.2.2.2.2.2.2.2.2.2.2.2.2.1 x.2.2.2.2.2.2.2.2.2.2.2.2.2.2.1 x.2.2.2.2.2.2.2.2.2.2.2.2.2.2.2.1 x.2.2.2.2.2.2.2.2.2.2.2.2.2.2.2.2.1 x.2.2.2.2.2.2.2.2.2.2.2.2.2.2.2.2.2.1 x.2.2.2.2.2.2.2.2.2.2.2.2.2.2.2.2.2.2.1 x.2.2.2.2.2.2.2.2.2.2.2.2.2.2.2.2.2.2.2.1 x.2.2.2.2.2.2.2.2.2.2.2.2.2.2.2.2.2.2.2.2.1 x.2.2.2.2.2.2.2.2.2.2.2.2.2.2.2.2.2.2.2.2.2.1 x.2.2.2.2.2.2.2.2.2.2.2.2.2.2.2.2.2.2.2.2.2.2.1 x.2.2.2.2.2.2.2.2.2.2.2.2.2.2.2.2.2.2.2.2.2.2.2.1 x.2.2.2.2.2.2.2.2.2.2.2.2.2.2.2.2.2.2.2.2.2.2.2.2.1 x.2.2.2.2.2.2.2.2.2.2.2.2.2.2.2.2.2.2.2.2.2.2.2.2.2.1 x.2.2.2.2.2.2.2.2.2.2.2.2.2.2.2.2.2.2.2.2.2.2.2.2.2.2.1 x.2.2.2.2.2.2.2.2.2.2.2.2.2.2.2.2.2.2.2.2.2.2.2.2.2.2.2⟩
def spec_ruBroken.pl0 : Refl.Pn G (Refl.PT G (spec_ruBroken.e 0).ol) := ⟨true, 0, ⟨[(5, .v (.c (.own 3))), (8, .v (.c (.row 112 false))), (9, .v (.c li)), (10, .v (.c li)), (2, .box 2 0)], [(2, 77, gL6)]⟩, fun k x => spec_ruBroken.l0 k x.1 x.2.1 x.2.2.1 x.2.2.2.1 x.2.2.2.2.1 x.2.2.2.2.2.1 x.2.2.2.2.2.2.1 x.2.2.2.2.2.2.2.1 x.2.2.2.2.2.2.2.2.1 x.2.2.2.2.2.2.2.2.2.1 x.2.2.2.2.2.2.2.2.2.2.1 x.2.2.2.2.2.2.2.2.2.2.2.1 x.2.2.2.2.2.2.2.2.2.2.2.2.1 x.2.2.2.2.2.2.2.2.2.2.2.2.2.1 x.2.2.2.2.2.2.2.2.2.2.2.2.2.2.1 x.2.2.2.2.2.2.2.2.2.2.2.2.2.2.2.1 x.2.2.2.2.2.2.2.2.2.2.2.2.2.2.2.2.1 x.2.2.2.2.2.2.2.2.2.2.2.2.2.2.2.2.2.1 x.2.2.2.2.2.2.2.2.2.2.2.2.2.2.2.2.2.2.1 x.2.2.2.2.2.2.2.2.2.2.2.2.2.2.2.2.2.2.2.1 x.2.2.2.2.2.2.2.2.2.2.2.2.2.2.2.2.2.2.2.2.1 x.2.2.2.2.2.2.2.2.2.2.2.2.2.2.2.2.2.2.2.2.2.1 x.2.2.2.2.2.2.2.2.2.2.2.2.2.2.2.2.2.2.2.2.2.2.1 x.2.2.2.2.2.2.2.2.2.2.2.2.2.2.2.2.2.2.2.2.2.2.2.1 x.2.2.2.2.2.2.2.2.2.2.2.2.2.2.2.2.2.2.2.2.2.2.2.2.1 x.2.2.2.2.2.2.2.2.2.2.2.2.2.2.2.2.2.2.2.2.2.2.2.2.2.1 x.2.2.2.2.2.2.2.2.2.2.2.2.2.2.2.2.2.2.2.2.2.2.2.2.2.2.1 x.2.2.2.2.2.2.2.2.2.2.2.2.2.2.2.2.2.2.2.2.2.2.2.2.2.2.2.1 x.2.2.2.2.2.2.2.2.2.2.2.2.2.2.2.2.2.2.2.2.2.2.2.2.2.2.2.2.1 x.2.2.2.2.2.2.2.2.2.2.2.2.2.2.2.2.2.2.2.2.2.2.2.2.2.2.2.2.2.1 x.2.2.2.2.2.2.2.2.2.2.2.2.2.2.2.2.2.2.2.2.2.2.2.2.2.2.2.2.2.2⟩
theorem spec_ruBroken.ok (k : Nat) : Refl.EntOK Tryz.prog (spec_ruBroken.e k) := Refl.ent_ok 1000000 k GC (fun k => [spec_ruKeeps.e k]) (fun k => ⟨spec_ruKeeps.ok k, trivial⟩) Tryz.func71 (by kernel_rfl) [spec_ruBroken.pl0] (ps := [spec_ruBroken.pl0]) (by kernel_rfl) ⟨⟨fun x => by kernel_rfl, fun k x => by kernel_rfl⟩, trivial⟩ (fun x => by kernel_rfl)

/-! ### spec_BrokenBy: function 39 -/

def spec_BrokenBy.f (k : Nat) (a0_0 : Int) (a0_1 : Int) (a0_2 : Int) (a0_3 : Int) (a0_4 : Int) (a0_5 : Bool) (a0_6 : Int) (a0_7 : Int) (a0_8 : Int) (a0_9 : Int) (a0_10 : Bool) (a0_11 : ByteArray) (a0_12 : Int) (a0_13 : Bool) (a0_14 : Int) (a0_15 : Int) (a0_16 : Int) (a0_17 : Int) (a0_18 : Int) (a0_19 : Bool) (a0_20 : Int) (a0_21 : Int) (a0_22 : Int) (a0_23 : Int) (a0_24 : Bool) (a0_25 : ByteArray) (a0_26 : Int) (l1 : List (S112)) : Option (List Int × Bool) := (spec_siGood.f k a0_0 a0_1 a0_2 a0_3 a0_4 a0_5 a0_6 a0_7 a0_8 a0_9 a0_10 a0_11 a0_12 a0_13 a0_14 a0_15 a0_16 a0_17 a0_18 a0_19 a0_20 a0_21 a0_22 a0_23 a0_24 a0_25 a0_26).bind fun t240 => (if t240 = true then ((spec_ruAll.f k l1).bind fun t241 => (if t241 = true then ((spec_ruBroken.f k a0_0 a0_1 a0_2 a0_3 a0_4 a0_5 a0_6 a0_7 a0_8 a0_9 a0_10 a0_11 a0_12 a0_13 a0_14 a0_15 a0_16 a0_17 a0_18 a0_19 a0_20 a0_21 a0_22 a0_23 a0_24 a0_25 a0_26 l1).bind fun t242 => (some (t242, true))) else (some (([] : List Int), false)))) else (some (([] : List Int), false)))

theorem spec_BrokenBy.mono : ∀ a0 a1 a2 a3 a4 a5 a6 a7 a8 a9 a10 a11 a12 a13 a14 a15 a16 a17 a18 a19 a20 a21 a22 a23 a24 a25 a26 a27 k, LeO (spec_BrokenBy.f k a0 a1 a2 a3 a4 a5 a6 a7 a8 a9 a10 a11 a12 a13 a14 a15 a16 a17 a18 a19 a20 a21 a22 a23 a24 a25 a26 a27) (spec_BrokenBy.f (k + 1) a0 a1 a2 a3 a4 a5 a6 a7 a8 a9 a10 a11 a12 a13 a14 a15 a16 a17 a18 a19 a20 a21 a22 a23 a24 a25 a26 a27) := by
  intro a0 a1 a2 a3 a4 a5 a6 a7 a8 a9 a10 a11 a12 a13 a14 a15 a16 a17 a18 a19 a20 a21 a22 a23 a24 a25 a26 a27 k
  unfold spec_BrokenBy.f
  repeat' first
      | (with_reducible exact spec_ruAll.mono _ _)
      | (with_reducible exact spec_ruBroken.mono _ _ _ _ _ _ _ _ _ _ _ _ _ _ _ _ _ _ _ _ _ _ _ _ _ _ _ _ _)
      | (with_reducible exact spec_siGood.mono _ _ _ _ _ _ _ _ _ _ _ _ _ _ _ _ _ _ _ _ _ _ _ _ _ _ _ _)
      | (with_reducible exact LeO.refl _)
      | (with_reducible exact LeO.none _)
      | (with_reducible refine LeO.ite ?_ ?_)
      | (with_reducible refine LeO.bind ?_ (fun _ => ?_))
      | exact spec_ruAll.mono _ _
      | exact spec_ruBroken.mono _ _ _ _ _ _ _ _ _ _ _ _ _ _ _ _ _ _ _ _ _ _ _ _ _ _ _ _ _
      | exact spec_siGood.mono _ _ _ _ _ _ _ _ _ _ _ _ _ _ _ _ _ _ _ _ _ _ _ _ _ _ _ _
      | exact LeO.none _
      | refine LeO.ite ?_ ?_
      | refine LeO.bind ?_ (fun _ => ?_)

def spec_BrokenBy.e (k : Nat) : Refl.Ent G := ⟨39, [(.agg gL1), (.c (.row 112 false))], .tup [(.c (.own 3)), (.c .bool)], fun x => spec_BrokenBy.f k x.1 x.2.1 x.2.2.1 x.2.2.2.1 x.2.2.2.2.1 x.2.2.2.2.2.1 x.2.2.2.2.2.2.1 x.2.2.2.2.2.2.2.1 x.2.2.2.2.2.2.2.2.1 x.2.2.2.2.2.2.2.2.2.1 x.2.2.2.2.2.2.2.2.2.2.1 x.2.2.2.2.2.2.2.2.2.2.2.1 x.2.2.2.2.2.2.2.2.2.2.2.2.1 x.2.2.2.2.2.2.2.2.2.2.2.2.2.1 x.2.2.2.2.2.2.2.2.2.2.2.2.2.2.1 x.2.2.2.2.2.2.2.2.2.2.2.2.2.2.2.1 x.2.2.2.2.2.2.2.2.2.2.2.2.2.2.2.2.1 x.2.2.2.2.2.2.2.2.2.2.2.2.2.2.2.2.2.1 x.2.2.2.2.2.2.2.2.2.2.2.2.2.2.2.2.2.2.1 x.2.2.2.2.2.2.2.2.2.2.2.2.2.2.2.2.2.2.2.1 x.2.2.2.2.2.2.2.2.2.2.2.2.2.2.2.2.2.2.2.2.1 x.2.2.2.2.2.2.2.2.2.2.2.2.2.2.2.2.2.2.2.2.2.1 x.2.2.2.2.2.2.2.2.2.2.2.2.2.2.2.2.2.2.2.2.2.2.1 x.2.2.2.2.2.2.2.2.2.2.2.2.2.2.2.2.2.2.2.2.2.2.2.1 x.2.2.2.2.2.2.2.2.2.2.2.2.2.2.2.2.2.2.2.2.2.2.2.2.1 x.2.2.2.2.2.2.2.2.2.2.2.2.2.2.2.2.2.2.2.2.2.2.2.2.2.1 x.2.2.2.2.2.2.2.2.2.2.2.2.2.2.2.2.2.2.2.2.2.2.2.2.2.2.1 x.2.2.2.2.2.2.2.2.2.2.2.2.2.2.2.2.2.2.2.2.2.2.2.2.2.2.2⟩
theorem spec_BrokenBy.ok (k : Nat) : Refl.EntOK Tryz.prog (spec_BrokenBy.e k) := Refl.ent_ok 1000000 k GC (fun k => [spec_siGood.e k, spec_ruAll.e k, spec_ruBroken.e k]) (fun k => ⟨spec_siGood.ok k, spec_ruAll.ok k, spec_ruBroken.ok k, trivial⟩) Tryz.func39 (by kernel_rfl) [] (ps := []) (by kernel_rfl) trivial (fun x => by kernel_rfl)

/-! ### laws_toShape: function 122 -/

def laws_toShape.f (a0_0 : Int) (a0_1 : Int) (a0_2 : Int) (a0_3 : Int) (a0_4 : Int) (a0_5 : Bool) : Option (Int × Int × Int × Int × Int × Bool) := some (a0_0, a0_1, a0_2, a0_3, a0_4, a0_5)

def laws_toShape.e (k : Nat) : Refl.Ent G := ⟨122, [(.agg [li, li, li, li, li, .bool])], .one (.agg [li, li, li, li, li, .bool]), fun x => laws_toShape.f x.1 x.2.1 x.2.2.1 x.2.2.2.1 x.2.2.2.2.1 x.2.2.2.2.2⟩
theorem laws_toShape.ok (k : Nat) : Refl.EntOK Tryz.prog (laws_toShape.e k) := Refl.ent_ok 1000000 k GC (fun k => []) (fun k => trivial) Tryz.func122 (by kernel_rfl) [] (ps := []) (by kernel_rfl) trivial (fun x => by kernel_rfl)

/-! ### laws_toOrient: function 123 -/

def laws_toOrient.f (a0_0 : Int) (a0_1 : Int) : Option (Int × Int) := some (a0_0, a0_1)

def laws_toOrient.e (k : Nat) : Refl.Ent G := ⟨123, [(.agg [li, li])], .one (.agg [li, li]), fun x => laws_toOrient.f x.1 x.2⟩
theorem laws_toOrient.ok (k : Nat) : Refl.EntOK Tryz.prog (laws_toOrient.e k) := Refl.ent_ok 1000000 k GC (fun k => []) (fun k => trivial) Tryz.func123 (by kernel_rfl) [] (ps := []) (by kernel_rfl) trivial (fun x => by kernel_rfl)

/-! ### laws_toPlace: function 124 -/

def laws_toPlace.f (a0_0 : Int) (a0_1 : Int) (a0_2 : Bool) : Option (Int × Int × Bool) := some (a0_0, a0_1, a0_2)

def laws_toPlace.e (k : Nat) : Refl.Ent G := ⟨124, [(.agg [li, li, .bool])], .one (.agg [li, li, .bool]), fun x => laws_toPlace.f x.1 x.2.1 x.2.2⟩
theorem laws_toPlace.ok (k : Nat) : Refl.EntOK Tryz.prog (laws_toPlace.e k) := Refl.ent_ok 1000000 k GC (fun k => []) (fun k => trivial) Tryz.func124 (by kernel_rfl) [] (ps := []) (by kernel_rfl) trivial (fun x => by kernel_rfl)

/-! ### laws_toMove: function 125 -/

def laws_toMove.f (a0_0 : ByteArray) (a0_1 : Int) : Option (ByteArray × Int) := some (a0_0, a0_1)

def laws_toMove.e (k : Nat) : Refl.Ent G := ⟨125, [(.agg [.str, li])], .one (.agg [.str, li]), fun x => laws_toMove.f x.1 x.2⟩
theorem laws_toMove.ok (k : Nat) : Refl.EntOK Tryz.prog (laws_toMove.e k) := Refl.ent_ok 1000000 k GC (fun k => []) (fun k => trivial) Tryz.func125 (by kernel_rfl) [] (ps := []) (by kernel_rfl) trivial (fun x => by kernel_rfl)

/-! ### laws_toHand: function 72 -/

def laws_toHand.f (a0_0 : Int) (a0_1 : Int) (a0_2 : Int) (a0_3 : Int) (a0_4 : Int) (a0_5 : Bool) (a0_6 : Int) (a0_7 : Int) (a0_8 : Int) (a0_9 : Int) (a0_10 : Bool) (a0_11 : ByteArray) (a0_12 : Int) : Option (Int × Int × Int × Int × Int × Bool × Int × Int × Int × Int × Bool × ByteArray × Int) := (laws_toShape.f a0_0 a0_1 a0_2 a0_3 a0_4 a0_5).bind fun bt260 => ((laws_toOrient.f a0_6 a0_7).bind fun bt266 => ((laws_toPlace.f a0_8 a0_9 a0_10).bind fun bt268 => ((laws_toMove.f a0_11 a0_12).bind fun bt271 => (some (bt260.1, bt260.2.1, bt260.2.2.1, bt260.2.2.2.1, bt260.2.2.2.2.1, bt260.2.2.2.2.2, bt266.1, bt266.2, bt268.1, bt268.2.1, bt268.2.2, bt271.1, bt271.2)))))

def laws_toHand.e (k : Nat) : Refl.Ent G := ⟨72, [(.agg gL0)], .one (.agg gL0), fun x => laws_toHand.f x.1 x.2.1 x.2.2.1 x.2.2.2.1 x.2.2.2.2.1 x.2.2.2.2.2.1 x.2.2.2.2.2.2.1 x.2.2.2.2.2.2.2.1 x.2.2.2.2.2.2.2.2.1 x.2.2.2.2.2.2.2.2.2.1 x.2.2.2.2.2.2.2.2.2.2.1 x.2.2.2.2.2.2.2.2.2.2.2.1 x.2.2.2.2.2.2.2.2.2.2.2.2⟩
theorem laws_toHand.ok (k : Nat) : Refl.EntOK Tryz.prog (laws_toHand.e k) := Refl.ent_ok 1000000 k GC (fun k => [laws_toShape.e k, laws_toOrient.e k, laws_toPlace.e k, laws_toMove.e k]) (fun k => ⟨laws_toShape.ok k, laws_toOrient.ok k, laws_toPlace.ok k, laws_toMove.ok k, trivial⟩) Tryz.func72 (by kernel_rfl) [] (ps := []) (by kernel_rfl) trivial (fun x => by kernel_rfl)

/-! ### laws_toSign: function 40 -/

def laws_toSign.f (a0_0 : Int) (a0_1 : Int) (a0_2 : Int) (a0_3 : Int) (a0_4 : Int) (a0_5 : Bool) (a0_6 : Int) (a0_7 : Int) (a0_8 : Int) (a0_9 : Int) (a0_10 : Bool) (a0_11 : ByteArray) (a0_12 : Int) (a0_13 : Bool) (a0_14 : Int) (a0_15 : Int) (a0_16 : Int) (a0_17 : Int) (a0_18 : Int) (a0_19 : Bool) (a0_20 : Int) (a0_21 : Int) (a0_22 : Int) (a0_23 : Int) (a0_24 : Bool) (a0_25 : ByteArray) (a0_26 : Int) : Option (Int × Int × Int × Int × Int × Bool × Int × Int × Int × Int × Bool × ByteArray × Int × Bool × Int × Int × Int × Int × Int × Bool × Int × Int × Int × Int × Bool × ByteArray × Int) := (laws_toHand.f a0_0 a0_1 a0_2 a0_3 a0_4 a0_5 a0_6 a0_7 a0_8 a0_9 a0_10 a0_11 a0_12).bind fun x => (laws_toHand.f a0_14 a0_15 a0_16 a0_17 a0_18 a0_19 a0_20 a0_21 a0_22 a0_23 a0_24 a0_25 a0_26).bind fun y => some (x.1, x.2.1, x.2.2.1, x.2.2.2.1, x.2.2.2.2.1, x.2.2.2.2.2.1, x.2.2.2.2.2.2.1, x.2.2.2.2.2.2.2.1, x.2.2.2.2.2.2.2.2.1, x.2.2.2.2.2.2.2.2.2.1, x.2.2.2.2.2.2.2.2.2.2.1, x.2.2.2.2.2.2.2.2.2.2.2.1, x.2.2.2.2.2.2.2.2.2.2.2.2, a0_13, y.1, y.2.1, y.2.2.1, y.2.2.2.1, y.2.2.2.2.1, y.2.2.2.2.2.1, y.2.2.2.2.2.2.1, y.2.2.2.2.2.2.2.1, y.2.2.2.2.2.2.2.2.1, y.2.2.2.2.2.2.2.2.2.1, y.2.2.2.2.2.2.2.2.2.2.1, y.2.2.2.2.2.2.2.2.2.2.2.1, y.2.2.2.2.2.2.2.2.2.2.2.2)

def laws_toSign.e (k : Nat) : Refl.Ent G := ⟨40, [(.agg gL1)], .one (.agg gL1), fun x => laws_toSign.f x.1 x.2.1 x.2.2.1 x.2.2.2.1 x.2.2.2.2.1 x.2.2.2.2.2.1 x.2.2.2.2.2.2.1 x.2.2.2.2.2.2.2.1 x.2.2.2.2.2.2.2.2.1 x.2.2.2.2.2.2.2.2.2.1 x.2.2.2.2.2.2.2.2.2.2.1 x.2.2.2.2.2.2.2.2.2.2.2.1 x.2.2.2.2.2.2.2.2.2.2.2.2.1 x.2.2.2.2.2.2.2.2.2.2.2.2.2.1 x.2.2.2.2.2.2.2.2.2.2.2.2.2.2.1 x.2.2.2.2.2.2.2.2.2.2.2.2.2.2.2.1 x.2.2.2.2.2.2.2.2.2.2.2.2.2.2.2.2.1 x.2.2.2.2.2.2.2.2.2.2.2.2.2.2.2.2.2.1 x.2.2.2.2.2.2.2.2.2.2.2.2.2.2.2.2.2.2.1 x.2.2.2.2.2.2.2.2.2.2.2.2.2.2.2.2.2.2.2.1 x.2.2.2.2.2.2.2.2.2.2.2.2.2.2.2.2.2.2.2.2.1 x.2.2.2.2.2.2.2.2.2.2.2.2.2.2.2.2.2.2.2.2.2.1 x.2.2.2.2.2.2.2.2.2.2.2.2.2.2.2.2.2.2.2.2.2.2.1 x.2.2.2.2.2.2.2.2.2.2.2.2.2.2.2.2.2.2.2.2.2.2.2.1 x.2.2.2.2.2.2.2.2.2.2.2.2.2.2.2.2.2.2.2.2.2.2.2.2.1 x.2.2.2.2.2.2.2.2.2.2.2.2.2.2.2.2.2.2.2.2.2.2.2.2.2.1 x.2.2.2.2.2.2.2.2.2.2.2.2.2.2.2.2.2.2.2.2.2.2.2.2.2.2⟩
theorem laws_toSign.ok (k : Nat) : Refl.EntOK Tryz.prog (laws_toSign.e k) := Refl.ent_ok 1000000 k GC (fun k => [laws_toHand.e k]) (fun k => ⟨laws_toHand.ok k, trivial⟩) Tryz.func40 (by kernel_rfl) [] (ps := []) (by kernel_rfl) trivial (fun x => by kernel_rfl)

/-! ### laws_toConstraint: function 73 -/

def laws_toConstraint.f (a0_0 : Int) (a0_1 : Int) : Option (Int × Int) := some (a0_0, a0_1)

def laws_toConstraint.e (k : Nat) : Refl.Ent G := ⟨73, [(.agg [li, li])], .one (.agg [li, li]), fun x => laws_toConstraint.f x.1 x.2⟩
theorem laws_toConstraint.ok (k : Nat) : Refl.EntOK Tryz.prog (laws_toConstraint.e k) := Refl.ent_ok 1000000 k GC (fun k => []) (fun k => trivial) Tryz.func73 (by kernel_rfl) [] (ps := []) (by kernel_rfl) trivial (fun x => by kernel_rfl)

/-! ### laws_toConstraintS: function 41 -/

def laws_toConstraintS.l0 : Nat → List (S114) → List (S112) → Int → Option ((List (S112)))
  | 0, _, _, _ => none
  | k + 1, x0, x3, x4 => if x4 < (x0.length : Int) then (if 0 ≤ x4 then (if x4 < (x0.length : Int) then ((laws_toConstraint.f ((rd_T114 x0 x4).f0) ((rd_T114 x0 x4).f1)).bind fun bt280 => (if 0 ≤ x4 then (if x4 < (x3.length : Int) then (laws_toConstraintS.l0 k x0 (x3.set (x4 : Int).toNat (⟨bt280.1, bt280.2⟩ : S112)) (wrap64 (x4 + 1))) else (none)) else (none))) else (none)) else (none)) else (some x3)

def laws_toConstraintS.f (k : Nat) (l0 : List (S114)) : Option ((List (S112))) := if 0 ≤ (l0.length : Int) then (if ((l0.length : Int) : Int).toNat ≤ 17592186044416 then (laws_toConstraintS.l0 k l0 (List.replicate ((l0.length : Int) : Int).toNat z112) 0) else (none)) else (none)

theorem laws_toConstraintS.mono_l : ∀ k, (∀ y0 y1 y2, LeO (laws_toConstraintS.l0 k y0 y1 y2) (laws_toConstraintS.l0 (k + 1) y0 y1 y2))
  | 0 => fun _ _ _ r h => by simp [laws_toConstraintS.l0] at h
  | k + 1 => by
    have ih0 := laws_toConstraintS.mono_l k
    · intro y0 y1 y2
      unfold laws_toConstraintS.l0
      repeat' first
      | (with_reducible exact ih0 _ _ _)
      | (with_reducible exact LeO.refl _)
      | (with_reducible exact LeO.none _)
      | (with_reducible refine LeO.ite ?_ ?_)
      | (with_reducible refine LeO.bind ?_ (fun _ => ?_))
      | exact ih0 _ _ _
      | exact LeO.none _
      | refine LeO.ite ?_ ?_
      | refine LeO.bind ?_ (fun _ => ?_)

theorem laws_toConstraintS.mono : ∀ a0 k, LeO (laws_toConstraintS.f k a0) (laws_toConstraintS.f (k + 1) a0) := by
  intro a0 k
  have ih0 := laws_toConstraintS.mono_l k
  unfold laws_toConstraintS.f
  repeat' first
      | (with_reducible exact ih0 _ _ _)
      | (with_reducible exact LeO.refl _)
      | (with_reducible exact LeO.none _)
      | (with_reducible refine LeO.ite ?_ ?_)
      | (with_reducible refine LeO.bind ?_ (fun _ => ?_))
      | exact ih0 _ _ _
      | exact LeO.none _
      | refine LeO.ite ?_ ?_
      | refine LeO.bind ?_ (fun _ => ?_)

def laws_toConstraintS.e (k : Nat) : Refl.Ent G := ⟨41, [(.c (.row 114 false))], .one (.c (.own 112)), fun x => laws_toConstraintS.f k x⟩
def laws_toConstraintS.pl0 : Refl.Pn G (Refl.PT G (laws_toConstraintS.e 0).ol) := ⟨true, 0, ⟨[(0, .v (.c (.row 114 false))), (3, .v (.c (.own 112))), (4, .v (.c li))], []⟩, fun k x => laws_toConstraintS.l0 k x.1 x.2.1 x.2.2⟩
theorem laws_toConstraintS.ok (k : Nat) : Refl.EntOK Tryz.prog (laws_toConstraintS.e k) := Refl.ent_ok 1000000 k GC (fun k => [laws_toConstraint.e k]) (fun k => ⟨laws_toConstraint.ok k, trivial⟩) Tryz.func41 (by kernel_rfl) [laws_toConstraintS.pl0] (ps := [laws_toConstraintS.pl0]) (by kernel_rfl) ⟨⟨fun x => by kernel_rfl, fun k x => by kernel_rfl⟩, trivial⟩ (fun x => by kernel_rfl)

/-! ### strings_Repeat: function 196 -/

def strings_Repeat.f (a0 : ByteArray) (a1 : Int) : Option ByteArray :=
  if 0 ≤ a1 ∧ a1 ≤ 9223372036854775807 ∧ a0.size * a1.toNat ≤ 140737488355328 then some ⟨(Lib.repeatL a0.data.toList a1.toNat).toArray⟩ else none
theorem strings_Repeat.calls (a0 : ByteArray) (a1 : Int) (r : ByteArray) (w : World) (h : strings_Repeat.f a0 a1 = some r) :
    Calls Tryz.prog 196 #[.string a0, .int .i64 a1] w fun e w' => e = .returned (.string r) ∧ Below w.heap.size w w' := by
  unfold strings_Repeat.f at h
  split at h
  · rename_i hc
    obtain rfl := Option.some.inj h
    obtain ⟨c, rfl⟩ := Int.eq_ofNat_of_zero_le hc.1
    exact Tryz.strings_Repeat a0 c w (by omega) (by simpa using hc.2.2)
  · exact absurd h (by simp)

def strings_Repeat.e (k : Nat) : Refl.Ent G := ⟨196, [(.c .str), (.c li)], .one (.c .str), fun x => strings_Repeat.f x.1 x.2⟩
theorem strings_Repeat.ok (k : Nat) : Refl.EntOK Tryz.prog (strings_Repeat.e k) := Refl.entOK_hand Tryz.func196 (by kernel_rfl) (fun x => by kernel_rfl) (fun y => ⟨by kernel_rfl, by kernel_rfl, by kernel_rfl, by kernel_rfl⟩) (fun x y h w => (strings_Repeat.calls x.1 x.2 y w h).mono fun e w' hh => ⟨hh.1, hh.2⟩)

/-! ### impl_Move_all: function 172 -/

def impl_Move_all.f (a0_0 : ByteArray) (a0_1 : Int) : Option (ByteArray) := (strings_Repeat.f a0_0 a0_1).bind fun t284 => (some t284)

def impl_Move_all.e (k : Nat) : Refl.Ent G := ⟨172, [(.agg [.str, li])], .one (.c .str), fun x => impl_Move_all.f x.1 x.2⟩
theorem impl_Move_all.ok (k : Nat) : Refl.EntOK Tryz.prog (impl_Move_all.e k) := Refl.ent_ok 1000000 k GC (fun k => [strings_Repeat.e k]) (fun k => ⟨strings_Repeat.ok k, trivial⟩) Tryz.func172 (by kernel_rfl) [] (ps := []) (by kernel_rfl) trivial (fun x => by kernel_rfl)

/-! ### impl_Sign_steps: function 129 -/

def impl_Sign_steps.f (a0_0 : Int) (a0_1 : Int) (a0_2 : Int) (a0_3 : Int) (a0_4 : Int) (a0_5 : Bool) (a0_6 : Int) (a0_7 : Int) (a0_8 : Int) (a0_9 : Int) (a0_10 : Bool) (a0_11 : ByteArray) (a0_12 : Int) (a0_13 : Bool) (a0_14 : Int) (a0_15 : Int) (a0_16 : Int) (a0_17 : Int) (a0_18 : Int) (a0_19 : Bool) (a0_20 : Int) (a0_21 : Int) (a0_22 : Int) (a0_23 : Int) (a0_24 : Bool) (a0_25 : ByteArray) (a0_26 : Int) : Option (Int) := (impl_Move_all.f a0_11 a0_12).bind fun t286 => ((impl_Move_all.f a0_25 a0_26).bind fun t287 => (some (mx (t286.size : Int) (t287.size : Int))))

def impl_Sign_steps.e (k : Nat) : Refl.Ent G := ⟨129, [(.agg gL1)], .one (.c li), fun x => impl_Sign_steps.f x.1 x.2.1 x.2.2.1 x.2.2.2.1 x.2.2.2.2.1 x.2.2.2.2.2.1 x.2.2.2.2.2.2.1 x.2.2.2.2.2.2.2.1 x.2.2.2.2.2.2.2.2.1 x.2.2.2.2.2.2.2.2.2.1 x.2.2.2.2.2.2.2.2.2.2.1 x.2.2.2.2.2.2.2.2.2.2.2.1 x.2.2.2.2.2.2.2.2.2.2.2.2.1 x.2.2.2.2.2.2.2.2.2.2.2.2.2.1 x.2.2.2.2.2.2.2.2.2.2.2.2.2.2.1 x.2.2.2.2.2.2.2.2.2.2.2.2.2.2.2.1 x.2.2.2.2.2.2.2.2.2.2.2.2.2.2.2.2.1 x.2.2.2.2.2.2.2.2.2.2.2.2.2.2.2.2.2.1 x.2.2.2.2.2.2.2.2.2.2.2.2.2.2.2.2.2.2.1 x.2.2.2.2.2.2.2.2.2.2.2.2.2.2.2.2.2.2.2.1 x.2.2.2.2.2.2.2.2.2.2.2.2.2.2.2.2.2.2.2.2.1 x.2.2.2.2.2.2.2.2.2.2.2.2.2.2.2.2.2.2.2.2.2.1 x.2.2.2.2.2.2.2.2.2.2.2.2.2.2.2.2.2.2.2.2.2.2.1 x.2.2.2.2.2.2.2.2.2.2.2.2.2.2.2.2.2.2.2.2.2.2.2.1 x.2.2.2.2.2.2.2.2.2.2.2.2.2.2.2.2.2.2.2.2.2.2.2.2.1 x.2.2.2.2.2.2.2.2.2.2.2.2.2.2.2.2.2.2.2.2.2.2.2.2.2.1 x.2.2.2.2.2.2.2.2.2.2.2.2.2.2.2.2.2.2.2.2.2.2.2.2.2.2⟩
theorem impl_Sign_steps.ok (k : Nat) : Refl.EntOK Tryz.prog (impl_Sign_steps.e k) := Refl.ent_ok 1000000 k GC (fun k => [impl_Move_all.e k]) (fun k => ⟨impl_Move_all.ok k, trivial⟩) Tryz.func129 (by kernel_rfl) [] (ps := []) (by kernel_rfl) trivial (fun x => by kernel_rfl)

/-! ### impl_Shape_bends: function 113 -/

def impl_Shape_bends.f (a0_0 : Int) (a0_1 : Int) (a0_2 : Int) (a0_3 : Int) (a0_4 : Int) (a0_5 : Bool) : Option (List Int) := some (([a0_1, a0_2, a0_3, a0_4] : List Int))

def impl_Shape_bends.e (k : Nat) : Refl.Ent G := ⟨113, [(.agg [li, li, li, li, li, .bool])], .one (.c (.row 3 true)), fun x => impl_Shape_bends.f x.1 x.2.1 x.2.2.1 x.2.2.2.1 x.2.2.2.2.1 x.2.2.2.2.2⟩
theorem impl_Shape_bends.ok (k : Nat) : Refl.EntOK Tryz.prog (impl_Shape_bends.e k) := Refl.ent_ok 1000000 k GC (fun k => []) (fun k => trivial) Tryz.func113 (by kernel_rfl) [] (ps := []) (by kernel_rfl) trivial (fun x => by kernel_rfl)

/-! ### impl_Shape_open: function 130 -/

def thIIdx : Nat → List Int → List Int
  | _, [] => []
  | i, x :: xs => if (x == 0) = true then (i : Int) :: thIIdx (i + 1) xs else thIIdx (i + 1) xs
/-- How many hold. -/

def thICnt (l : List Int) : Int := ((l.filter fun x => (x == 0)).length : Int)

theorem thIIdx_len : ∀ (l : List Int) (i : Nat), (thIIdx i l).length = (l.filter fun x => (x == 0)).length
  | [], _ => rfl
  | x :: xs, i => by
    unfold thIIdx
    rw [List.filter_cons]
    by_cases h : (x == 0) = true
    · rw [if_pos h, if_pos h, List.length_cons, List.length_cons, thIIdx_len xs (i + 1)]
    · rw [if_neg h, if_neg h, thIIdx_len xs (i + 1)]

def thIFrom (l : List Int) (i : Nat) (o R : List Int) : Prop := i ≤ l.length ∧ o ++ thIIdx i (l.drop i) = R ∧ o.length ≤ i

theorem thI_step {l : List Int} {i : Nat} {o R : List Int} (h : thIFrom l i o R) (hlt : i < l.length) : ((fun x => (x == 0)) l[i] = true → thIFrom l (i + 1) (o ++ [(i : Int)]) R) ∧ (¬ (fun x => (x == 0)) l[i] = true → thIFrom l (i + 1) o R) := by
  obtain ⟨_, h, hl⟩ := h
  rw [List.drop_eq_getElem_cons hlt] at h
  unfold thIIdx at h
  refine ⟨fun e => ?_, fun e => ?_⟩
  · rw [if_pos e] at h
    exact ⟨by omega, by rw [List.append_assoc]; exact h, by simp; omega⟩
  · rw [if_neg e] at h
    exact ⟨by omega, h, by omega⟩

theorem thI_end {l : List Int} {i : Nat} {o R : List Int} (h : thIFrom l i o R) (hge : ¬ i < l.length) : o = R := by
  obtain ⟨hi, h, _⟩ := h
  rw [List.drop_eq_nil_of_le (by omega)] at h
  simpa [thIIdx] using h

theorem thI_info : (Tryz.prog.info? 3).map (fun i => (i.zero, i.size, i.bytes)) = some (some (.int .i64 0), 1, 8) := by kernel_rfl

def impl_Shape_open.f (a0_0 a0_1 a0_2 a0_3 a0_4 : Int) (a0_5 : Bool) : Option Int := some (thICnt [a0_1, a0_2, a0_3, a0_4])

def impl_Shape_open.e (k : Nat) : Refl.Ent G := ⟨130, [(.agg [li, li, li, li, li, .bool])], .one (.c li), fun x => impl_Shape_open.f x.1 x.2.1 x.2.2.1 x.2.2.2.1 x.2.2.2.2.1 x.2.2.2.2.2⟩
def op1.f (x : Int) : Option Bool := some (x == 0)
def op1.e (k : Nat) : Refl.Ent G := ⟨177, [.c li], .one (.c .bool), fun x => op1.f x⟩
theorem op1.ok (k : Nat) : Refl.EntOK Tryz.prog (op1.e k) := Refl.ent_ok 1000000 k GC (fun k => []) (fun k => trivial) Tryz.func177 (by kernel_rfl) [] (ps := []) (by kernel_rfl) trivial (fun x => by kernel_rfl)
def op2.l0 : Nat → List Int → Int → Int → List Int → Option (List Int)
  | 0, _, _, _, _ => none
  | k + 1, l, n, i, o => if i < n then (if 0 ≤ i then (if i < (l.length : Int) then ((op1.f (rd l i)).bind fun t => if t = true then (if o.length < 17592186044416 then (op2.l0 k l n (wrap64 (i + 1)) (o ++ [i])) else (none)) else (op2.l0 k l n (wrap64 (i + 1)) o)) else (none)) else (none)) else (some o)
def op2.f (k : Nat) (l : List Int) : Option (List Int) := op2.l0 k l (l.length : Int) 0 ([] : List Int)
def op2.e (k : Nat) : Refl.Ent G := ⟨176, [.c (.row 3 false), .clo 177 []], .one (.c (.row 3 true)), fun x => op2.f k x⟩
def op2.p : Refl.Pn G (Refl.PT G (op2.e 0).ol) := ⟨true, 0, ⟨[(1, .v (.clo 177 [])), (8, .v (.c (.row 3 false))), (9, .v (.c li)), (10, .v (.c li)), (5, .v (.c (.row 3 true)))], []⟩, fun k x => op2.l0 k x.1 x.2.1 x.2.2.1 x.2.2.2⟩
theorem op2.ok (k : Nat) : Refl.EntOK Tryz.prog (op2.e k) := Refl.ent_ok 1000000 k GC (fun k => [op1.e k]) (fun k => ⟨op1.ok k, trivial⟩) Tryz.func176 (by kernel_rfl) [op2.p] (ps := [op2.p]) (by kernel_rfl) ⟨⟨fun x => by kernel_rfl, fun k x => by kernel_rfl⟩, trivial⟩ (fun x => by kernel_rfl)
def op0.f (k : Nat) (a0 a1 a2 a3 a4 : Int) (a5 : Bool) : Option Int := (impl_Shape_bends.f a0 a1 a2 a3 a4 a5).bind fun t => (op2.f k t).bind fun u => some (u.length : Int)
def op0.e (k : Nat) : Refl.Ent G := ⟨130, [(.agg [li, li, li, li, li, .bool])], .one (.c li), fun x => op0.f k x.1 x.2.1 x.2.2.1 x.2.2.2.1 x.2.2.2.2.1 x.2.2.2.2.2⟩
theorem op0.ok (k : Nat) : Refl.EntOK Tryz.prog (op0.e k) := Refl.ent_ok 1000000 k GC (fun k => [impl_Shape_bends.e k, op2.e k]) (fun k => ⟨impl_Shape_bends.ok k, op2.ok k, trivial⟩) Tryz.func130 (by kernel_rfl) [] (ps := []) (by kernel_rfl) trivial (fun x => by kernel_rfl)
theorem op2_eq (l : List Int) (hl : l.length ≤ 1000) : ∀ (k i : Nat) (o : List Int), l.length - i < k → i ≤ l.length → o.length ≤ i → op2.l0 k l (l.length : Int) (i : Int) o = some (o ++ thIIdx i (l.drop i))
  | 0, i, o, h, _, _ => by omega
  | k + 1, i, o, h, hi, ho => by
    unfold op2.l0
    by_cases hlt : i < l.length
    · have hd := List.drop_eq_getElem_cons hlt
      have e : rd l (i : Int) = l[i] := by
        unfold rd
        rw [List.getD_eq_getElem?_getD]
        simp [hlt]
      have hw : wrap64 ((i : Int) + 1) = ((i + 1 : Nat) : Int) := by unfold wrap64; omega
      rw [if_pos (by omega), if_pos (by omega), if_pos (by omega), e, hd, hw]
      simp only [op1.f, Option.bind_some, thIIdx]
      by_cases hx : (l[i] == 0) = true
      · rw [if_pos hx, if_pos hx, if_pos (by omega), op2_eq l hl k (i + 1) _ (by omega) (by omega) (by simp; omega), List.append_assoc]
        rfl
      · rw [if_neg hx, if_neg hx, op2_eq l hl k (i + 1) _ (by omega) (by omega) (by omega)]
    · rw [if_neg (by omega), List.drop_eq_nil_of_le (by omega)]
      simp [thIIdx]
theorem op0_eq (a0 a1 a2 a3 a4 : Int) (a5 : Bool) : op0.f 1002 a0 a1 a2 a3 a4 a5 = impl_Shape_open.f a0 a1 a2 a3 a4 a5 := by
  have := op2_eq [a1, a2, a3, a4] (by simp) 1002 0 [] (by simp) (by simp) (by simp)
  show (op2.l0 1002 [a1, a2, a3, a4] (([a1, a2, a3, a4] : List Int).length : Int) ((0 : Nat) : Int) []).bind _ = some (thICnt [a1, a2, a3, a4])
  rw [this]
  simp only [Option.bind_some, List.nil_append, List.drop_zero, thIIdx_len, thICnt]
theorem impl_Shape_open.ok (k : Nat) : Refl.EntOK Tryz.prog (impl_Shape_open.e k) := (op0.ok 1002).weaken _ fun x y h => (op0_eq x.1 x.2.1 x.2.2.1 x.2.2.2.1 x.2.2.2.2.1 x.2.2.2.2.2).trans h

/-! ### impl_Hand_moves: function 168 -/

def impl_Hand_moves.f (a0_0 : Int) (a0_1 : Int) (a0_2 : Int) (a0_3 : Int) (a0_4 : Int) (a0_5 : Bool) (a0_6 : Int) (a0_7 : Int) (a0_8 : Int) (a0_9 : Int) (a0_10 : Bool) (a0_11 : ByteArray) (a0_12 : Int) : Option (Bool) := some (a0_11.toList != ([] : List UInt8))

def impl_Hand_moves.e (k : Nat) : Refl.Ent G := ⟨168, [(.agg gL0)], .one (.c .bool), fun x => impl_Hand_moves.f x.1 x.2.1 x.2.2.1 x.2.2.2.1 x.2.2.2.2.1 x.2.2.2.2.2.1 x.2.2.2.2.2.2.1 x.2.2.2.2.2.2.2.1 x.2.2.2.2.2.2.2.2.1 x.2.2.2.2.2.2.2.2.2.1 x.2.2.2.2.2.2.2.2.2.2.1 x.2.2.2.2.2.2.2.2.2.2.2.1 x.2.2.2.2.2.2.2.2.2.2.2.2⟩
theorem impl_Hand_moves.ok (k : Nat) : Refl.EntOK Tryz.prog (impl_Hand_moves.e k) := Refl.ent_ok 1000000 k GC (fun k => []) (fun k => trivial) Tryz.func168 (by kernel_rfl) [] (ps := []) (by kernel_rfl) trivial (fun x => by kernel_rfl)

/-! ### impl_Sign_kind: function 131 -/

def impl_Sign_kind.f (a0_0 : Int) (a0_1 : Int) (a0_2 : Int) (a0_3 : Int) (a0_4 : Int) (a0_5 : Bool) (a0_6 : Int) (a0_7 : Int) (a0_8 : Int) (a0_9 : Int) (a0_10 : Bool) (a0_11 : ByteArray) (a0_12 : Int) (a0_13 : Bool) (a0_14 : Int) (a0_15 : Int) (a0_16 : Int) (a0_17 : Int) (a0_18 : Int) (a0_19 : Bool) (a0_20 : Int) (a0_21 : Int) (a0_22 : Int) (a0_23 : Int) (a0_24 : Bool) (a0_25 : ByteArray) (a0_26 : Int) : Option (Int) := if a0_13 = true then ((impl_Hand_moves.f a0_14 a0_15 a0_16 a0_17 a0_18 a0_19 a0_20 a0_21 a0_22 a0_23 a0_24 a0_25 a0_26).bind fun t294 => (if t294 = true then (some 1) else (if (a0_14 == a0_0 && (a0_15 == a0_1 && (a0_16 == a0_2 && (a0_17 == a0_3 && (a0_18 == a0_4 && (a0_19 == a0_5)))))) = true then (some 2) else (some 3)))) else (some 0)

def impl_Sign_kind.e (k : Nat) : Refl.Ent G := ⟨131, [(.agg gL1)], .one (.c li), fun x => impl_Sign_kind.f x.1 x.2.1 x.2.2.1 x.2.2.2.1 x.2.2.2.2.1 x.2.2.2.2.2.1 x.2.2.2.2.2.2.1 x.2.2.2.2.2.2.2.1 x.2.2.2.2.2.2.2.2.1 x.2.2.2.2.2.2.2.2.2.1 x.2.2.2.2.2.2.2.2.2.2.1 x.2.2.2.2.2.2.2.2.2.2.2.1 x.2.2.2.2.2.2.2.2.2.2.2.2.1 x.2.2.2.2.2.2.2.2.2.2.2.2.2.1 x.2.2.2.2.2.2.2.2.2.2.2.2.2.2.1 x.2.2.2.2.2.2.2.2.2.2.2.2.2.2.2.1 x.2.2.2.2.2.2.2.2.2.2.2.2.2.2.2.2.1 x.2.2.2.2.2.2.2.2.2.2.2.2.2.2.2.2.2.1 x.2.2.2.2.2.2.2.2.2.2.2.2.2.2.2.2.2.2.1 x.2.2.2.2.2.2.2.2.2.2.2.2.2.2.2.2.2.2.2.1 x.2.2.2.2.2.2.2.2.2.2.2.2.2.2.2.2.2.2.2.2.1 x.2.2.2.2.2.2.2.2.2.2.2.2.2.2.2.2.2.2.2.2.2.1 x.2.2.2.2.2.2.2.2.2.2.2.2.2.2.2.2.2.2.2.2.2.2.1 x.2.2.2.2.2.2.2.2.2.2.2.2.2.2.2.2.2.2.2.2.2.2.2.1 x.2.2.2.2.2.2.2.2.2.2.2.2.2.2.2.2.2.2.2.2.2.2.2.2.1 x.2.2.2.2.2.2.2.2.2.2.2.2.2.2.2.2.2.2.2.2.2.2.2.2.2.1 x.2.2.2.2.2.2.2.2.2.2.2.2.2.2.2.2.2.2.2.2.2.2.2.2.2.2⟩
theorem impl_Sign_kind.ok (k : Nat) : Refl.EntOK Tryz.prog (impl_Sign_kind.e k) := Refl.ent_ok 1000000 k GC (fun k => [impl_Hand_moves.e k]) (fun k => ⟨impl_Hand_moves.ok k, trivial⟩) Tryz.func131 (by kernel_rfl) [] (ps := []) (by kernel_rfl) trivial (fun x => by kernel_rfl)

/-! ### impl_Constraint_keptBy: function 78 -/

def impl_Constraint_keptBy.f (a0_0 : Int) (a0_1 : Int) (a1_0 : Int) (a1_1 : Int) (a1_2 : Int) (a1_3 : Int) (a1_4 : Int) (a1_5 : Bool) (a1_6 : Int) (a1_7 : Int) (a1_8 : Int) (a1_9 : Int) (a1_10 : Bool) (a1_11 : ByteArray) (a1_12 : Int) (a1_13 : Bool) (a1_14 : Int) (a1_15 : Int) (a1_16 : Int) (a1_17 : Int) (a1_18 : Int) (a1_19 : Bool) (a1_20 : Int) (a1_21 : Int) (a1_22 : Int) (a1_23 : Int) (a1_24 : Bool) (a1_25 : ByteArray) (a1_26 : Int) : Option (Bool) := if a0_0 = 0 then ((impl_Sign_steps.f a1_0 a1_1 a1_2 a1_3 a1_4 a1_5 a1_6 a1_7 a1_8 a1_9 a1_10 a1_11 a1_12 a1_13 a1_14 a1_15 a1_16 a1_17 a1_18 a1_19 a1_20 a1_21 a1_22 a1_23 a1_24 a1_25 a1_26).bind fun t297 => (some (decide (t297 ≤ a0_1)))) else (if a0_0 = 1 then (if a1_8 = a0_1 then (some false) else (if a1_13 = true then (some (!(a1_22 == a0_1))) else (some (!false)))) else (if a0_0 = 2 then ((impl_Shape_open.f a1_0 a1_1 a1_2 a1_3 a1_4 a1_5).bind fun t298 => (some (decide (t298 ≥ a0_1)))) else (if a0_0 = 3 then ((impl_Sign_kind.f a1_0 a1_1 a1_2 a1_3 a1_4 a1_5 a1_6 a1_7 a1_8 a1_9 a1_10 a1_11 a1_12 a1_13 a1_14 a1_15 a1_16 a1_17 a1_18 a1_19 a1_20 a1_21 a1_22 a1_23 a1_24 a1_25 a1_26).bind fun t299 => (some (t299 != a0_1))) else (some (decide (a1_8 ≤ a0_1))))))

def impl_Constraint_keptBy.e (k : Nat) : Refl.Ent G := ⟨78, [(.agg [li, li]), (.agg gL1)], .one (.c .bool), fun x => impl_Constraint_keptBy.f x.1 x.2.1 x.2.2.1 x.2.2.2.1 x.2.2.2.2.1 x.2.2.2.2.2.1 x.2.2.2.2.2.2.1 x.2.2.2.2.2.2.2.1 x.2.2.2.2.2.2.2.2.1 x.2.2.2.2.2.2.2.2.2.1 x.2.2.2.2.2.2.2.2.2.2.1 x.2.2.2.2.2.2.2.2.2.2.2.1 x.2.2.2.2.2.2.2.2.2.2.2.2.1 x.2.2.2.2.2.2.2.2.2.2.2.2.2.1 x.2.2.2.2.2.2.2.2.2.2.2.2.2.2.1 x.2.2.2.2.2.2.2.2.2.2.2.2.2.2.2.1 x.2.2.2.2.2.2.2.2.2.2.2.2.2.2.2.2.1 x.2.2.2.2.2.2.2.2.2.2.2.2.2.2.2.2.2.1 x.2.2.2.2.2.2.2.2.2.2.2.2.2.2.2.2.2.2.1 x.2.2.2.2.2.2.2.2.2.2.2.2.2.2.2.2.2.2.2.1 x.2.2.2.2.2.2.2.2.2.2.2.2.2.2.2.2.2.2.2.2.1 x.2.2.2.2.2.2.2.2.2.2.2.2.2.2.2.2.2.2.2.2.2.1 x.2.2.2.2.2.2.2.2.2.2.2.2.2.2.2.2.2.2.2.2.2.2.1 x.2.2.2.2.2.2.2.2.2.2.2.2.2.2.2.2.2.2.2.2.2.2.2.1 x.2.2.2.2.2.2.2.2.2.2.2.2.2.2.2.2.2.2.2.2.2.2.2.2.1 x.2.2.2.2.2.2.2.2.2.2.2.2.2.2.2.2.2.2.2.2.2.2.2.2.2.1 x.2.2.2.2.2.2.2.2.2.2.2.2.2.2.2.2.2.2.2.2.2.2.2.2.2.2.1 x.2.2.2.2.2.2.2.2.2.2.2.2.2.2.2.2.2.2.2.2.2.2.2.2.2.2.2.1 x.2.2.2.2.2.2.2.2.2.2.2.2.2.2.2.2.2.2.2.2.2.2.2.2.2.2.2.2⟩
theorem impl_Constraint_keptBy.ok (k : Nat) : Refl.EntOK Tryz.prog (impl_Constraint_keptBy.e k) := Refl.ent_ok 1000000 k GC (fun k => [impl_Sign_steps.e k, impl_Shape_open.e k, impl_Sign_kind.e k]) (fun k => ⟨impl_Sign_steps.ok k, impl_Shape_open.ok k, impl_Sign_kind.ok k, trivial⟩) Tryz.func78 (by kernel_rfl) [] (ps := []) (by kernel_rfl) trivial (fun x => by kernel_rfl)

/-! ### impl_within: function 63 -/

-- JOINS  | BOXES 
def impl_within.f (a0 : Int) (a1 : Int) (a2 : Int) : Option (Bool) := if a0 ≥ a1 then (some (decide (a0 ≤ a2))) else (some false)
set_option maxHeartbeats 8000000 in
set_option maxRecDepth 100000 in
theorem impl_within.calls (a0 : Int) (a1 : Int) (a2 : Int) (r : Bool) (w : World) (h : impl_within.f a0 a1 a2 = some r) :
    Calls Tryz.prog 63 #[.int .i64 a0, .int .i64 a1, .int .i64 a2] w fun e w' => e = .returned (.bool r) ∧ Drawn0 w w' := by
  have H : (if a0 ≥ a1 then (some (decide (a0 ≤ a2))) else (some false)) = some r := h
  clear h
  by_cases c4 : a0 ≥ a1
  · rw [if_pos c4] at H
    have c4b0 : decide (a1 ≤ a0) = true := decide_eq_true c4
    clear c4
    obtain rfl := Option.some.inj H
    go_enter Tryz.func63, Tryz.ntmps63
    go_wp2
    go_ret
    exact ⟨by first | rfl | (simp; done) | (simp [*]; done), by repeat (first | exact Drawn0.refl _ | apply Drawn0.step)⟩
  · rw [if_neg c4] at H
    have c4b0 : decide (a1 ≤ a0) = false := decide_eq_false c4
    clear c4
    obtain rfl := Option.some.inj H
    go_enter Tryz.func63, Tryz.ntmps63
    go_wp2
    go_ret
    exact ⟨by first | rfl | (simp; done) | (simp [*]; done), by repeat (first | exact Drawn0.refl _ | apply Drawn0.step)⟩

def impl_within.e (k : Nat) : Refl.Ent G := ⟨63, [(.c li), (.c li), (.c li)], .one (.c .bool), fun x => impl_within.f x.1 x.2.1 x.2.2⟩
theorem impl_within.ok (k : Nat) : Refl.EntOK Tryz.prog (impl_within.e k) := Refl.ent_ok 1000000 k GC (fun k => []) (fun k => trivial) Tryz.func63 (by kernel_rfl) [] (ps := []) (by kernel_rfl) trivial (fun x => by kernel_rfl)

/-! ### impl_IsPlace: function 24 -/

def impl_IsPlace.f (a0_0 : Int) (a0_1 : Int) (a0_2 : Bool) : Option (Bool) := (impl_within.f a0_0 0 9).bind fun t301 => (if t301 = true then ((impl_within.f a0_1 (-1) 1).bind fun t302 => (if t302 = true then (if a0_2 = true then (some (!(a0_0 == 0))) else (some (!false))) else (some false))) else (some false))

def impl_IsPlace.e (k : Nat) : Refl.Ent G := ⟨24, [(.agg [li, li, .bool])], .one (.c .bool), fun x => impl_IsPlace.f x.1 x.2.1 x.2.2⟩
theorem impl_IsPlace.ok (k : Nat) : Refl.EntOK Tryz.prog (impl_IsPlace.e k) := Refl.ent_ok 1000000 k GC (fun k => [impl_within.e k]) (fun k => ⟨impl_within.ok k, trivial⟩) Tryz.func24 (by kernel_rfl) [] (ps := []) (by kernel_rfl) trivial (fun x => by kernel_rfl)

/-! ### impl_allWithin: function 112 -/

def awOut (a1 a2 x : Int) : Bool := !decide (a1 ≤ x ∧ x ≤ a2)
/-- The first place with such a number, or -1. -/

def awIdx (a1 a2 : Int) : Nat → List Int → Int
  | _, [] => -1
  | i, x :: xs => if awOut a1 a2 x = true then (i : Int) else awIdx a1 a2 (i + 1) xs

def awAll (a1 a2 : Int) (l : List Int) : Bool := l.all fun x => decide (a1 ≤ x ∧ x ≤ a2)

theorem awIdx_all (a1 a2 : Int) : ∀ (l : List Int) (i : Nat), (!decide (0 ≤ awIdx a1 a2 i l)) = awAll a1 a2 l
  | [], i => by simp [awIdx, awAll]
  | x :: xs, i => by
    unfold awIdx
    by_cases h : awOut a1 a2 x = true
    · rw [if_pos h]
      unfold awOut at h
      simp only [Bool.not_eq_true'] at h
      simp only [awAll, List.all_cons, h, Bool.false_and]
      simp
    · rw [if_neg h, awIdx_all a1 a2 xs (i + 1)]
      unfold awOut at h
      simp only [Bool.not_eq_true', Bool.not_eq_false] at h
      simp only [awAll, List.all_cons, h, Bool.true_and]

theorem aw_within (a b c : Int) : impl_within.f a b c = some (decide (b ≤ a ∧ a ≤ c)) := by
  unfold impl_within.f
  by_cases h : b ≤ a
  · rw [if_pos h]; simp [h]
  · rw [if_neg h]; simp [h]

def AWFrom (a1 a2 : Int) (l : List Int) (i : Nat) (r : Int) : Prop := i ≤ l.length ∧ awIdx a1 a2 i (l.drop i) = r

theorem aw_step {a1 a2 : Int} {l : List Int} {i : Nat} {r : Int} (h : AWFrom a1 a2 l i r) (hlt : i < l.length) : (awOut a1 a2 (rd l (i : Int)) = false → AWFrom a1 a2 l (i + 1) r) ∧ (awOut a1 a2 (rd l (i : Int)) = true → r = (i : Int)) := by
  obtain ⟨_, h⟩ := h
  rw [List.drop_eq_getElem_cons hlt] at h
  unfold awIdx at h
  have e : rd l (i : Int) = l[i] := by
    unfold rd
    rw [List.getD_eq_getElem?_getD]
    simp [hlt]
  rw [e]
  refine ⟨fun e => ?_, fun e => ?_⟩
  · rw [e, if_neg (by decide)] at h; exact ⟨by omega, h⟩
  · rw [if_pos e] at h; exact h.symm

theorem aw_end {a1 a2 : Int} {l : List Int} {i : Nat} {r : Int} (h : AWFrom a1 a2 l i r) (hge : ¬ i < l.length) : r = -1 := by
  obtain ⟨hi, h⟩ := h
  rw [List.drop_eq_nil_of_le (by omega)] at h
  exact h.symm

def impl_allWithin.f (l0 : List Int) (a1 a2 : Int) : Option Bool := if l0.length ≤ 1000 then some (awAll a1 a2 l0) else none

def impl_allWithin.e (k : Nat) : Refl.Ent G := ⟨112, [(.c (.row 3 false)), (.c li), (.c li)], .one (.c .bool), fun x => impl_allWithin.f x.1 x.2.1 x.2.2⟩
def aw1.f (x a b : Int) : Option Bool := (impl_within.f x a b).bind fun t => some (!t)
def aw1.e (k : Nat) : Refl.Ent G := ⟨158, [.c li, .ref [li], .ref [li]], .one (.c .bool), fun x => aw1.f x.1 x.2.1 x.2.2⟩
theorem aw1.ok (k : Nat) : Refl.EntOK Tryz.prog (aw1.e k) := Refl.ent_ok 1000000 k GC (fun k => [impl_within.e k]) (fun k => ⟨impl_within.ok k, trivial⟩) Tryz.func158 (by kernel_rfl) [] (ps := []) (by kernel_rfl) trivial (fun x => by kernel_rfl)
def aw2.l0 : Nat → List Int → Int → Int → Int → Int → Option Int
  | 0, _, _, _, _, _ => none
  | k + 1, l, a, b, n, i => if i < n then (if 0 ≤ i then (if i < (l.length : Int) then ((aw1.f (rd l i) a b).bind fun t => if t = true then (some i) else (aw2.l0 k l a b n (wrap64 (i + 1)))) else (none)) else (none)) else (some (-1))
def aw2.f (k : Nat) (l : List Int) (a b : Int) : Option Int := aw2.l0 k l a b (l.length : Int) 0
def aw2.e (k : Nat) : Refl.Ent G := ⟨190, [.c (.row 3 false), .clo 158 [[li], [li]]], .one (.c li), fun x => aw2.f k x.1 x.2.1 x.2.2⟩
def aw2.p : Refl.Pn G (Refl.PT G (aw2.e 0).ol) := ⟨true, 0, ⟨[(0, .v (.c (.row 3 false))), (1, .v (.clo 158 [[li], [li]])), (7, .v (.c li)), (8, .v (.c li)), (4, .k (.int .i64 0))], []⟩, fun k x => aw2.l0 k x.1 x.2.1 x.2.2.1 x.2.2.2.1 x.2.2.2.2⟩
theorem aw2.ok (k : Nat) : Refl.EntOK Tryz.prog (aw2.e k) := Refl.ent_ok 1000000 k GC (fun k => [aw1.e k]) (fun k => ⟨aw1.ok k, trivial⟩) Tryz.func190 (by kernel_rfl) [aw2.p] (ps := [aw2.p]) (by kernel_rfl) ⟨⟨fun x => by kernel_rfl, fun k x => by kernel_rfl⟩, trivial⟩ (fun x => by kernel_rfl)
def aw3.f (k : Nat) (l : List Int) (a b : Int) : Option Bool := (aw2.f k l a b).bind fun t => some (decide (t ≥ 0))
def aw3.e (k : Nat) : Refl.Ent G := ⟨157, [.c (.row 3 false), .clo 158 [[li], [li]]], .one (.c .bool), fun x => aw3.f k x.1 x.2.1 x.2.2⟩
theorem aw3.ok (k : Nat) : Refl.EntOK Tryz.prog (aw3.e k) := Refl.ent_ok 1000000 k GC (fun k => [aw2.e k]) (fun k => ⟨aw2.ok k, trivial⟩) Tryz.func157 (by kernel_rfl) [] (ps := []) (by kernel_rfl) trivial (fun x => by kernel_rfl)
def aw0.f (k : Nat) (l : List Int) (a b : Int) : Option Bool := (aw3.f k l a b).bind fun t => some (!t)
def aw0.e (k : Nat) : Refl.Ent G := ⟨112, [.c (.row 3 false), .c li, .c li], .one (.c .bool), fun x => aw0.f k x.1 x.2.1 x.2.2⟩
theorem aw0.ok (k : Nat) : Refl.EntOK Tryz.prog (aw0.e k) := Refl.ent_ok 1000000 k GC (fun k => [aw3.e k]) (fun k => ⟨aw3.ok k, trivial⟩) Tryz.func112 (by kernel_rfl) [] (ps := []) (by kernel_rfl) trivial (fun x => by kernel_rfl)
theorem aw1_eq (x a b : Int) : aw1.f x a b = some (awOut a b x) := by
  unfold aw1.f awOut
  rw [aw_within]
  rfl
theorem aw2_eq (l : List Int) (a b : Int) (hl : l.length ≤ 1000) : ∀ (k i : Nat), l.length - i < k → i ≤ l.length → aw2.l0 k l a b (l.length : Int) (i : Int) = some (awIdx a b i (l.drop i))
  | 0, i, h, _ => by omega
  | k + 1, i, h, hi => by
    unfold aw2.l0
    by_cases hlt : i < l.length
    · have hd := List.drop_eq_getElem_cons hlt
      rw [if_pos (by omega), if_pos (by omega), if_pos (by omega), aw1_eq]
      have e : rd l (i : Int) = l[i] := by
        unfold rd
        rw [List.getD_eq_getElem?_getD]
        simp [hlt]
      rw [e, hd]
      simp only [Option.bind_some, awIdx]
      by_cases ho : awOut a b l[i] = true
      · rw [if_pos ho, if_pos ho]
      · rw [if_neg ho, if_neg ho, show wrap64 ((i : Int) + 1) = ((i + 1 : Nat) : Int) from by unfold wrap64; omega]
        exact aw2_eq l a b hl k (i + 1) (by omega) (by omega)
    · rw [if_neg (by omega), List.drop_eq_nil_of_le (by omega)]
      rfl
theorem impl_allWithin.ok (k : Nat) : Refl.EntOK Tryz.prog (impl_allWithin.e k) := (aw0.ok 1002).weaken _ fun x y h => by
  obtain ⟨l, a, b⟩ := x
  have h : impl_allWithin.f l a b = some y := h
  show aw0.f 1002 l a b = some y
  unfold impl_allWithin.f at h
  split at h
  · rename_i hl
    have := aw2_eq l a b hl 1002 0 (by omega) (by omega)
    unfold aw0.f aw3.f aw2.f
    rw [show ((0 : Nat) : Int) = 0 from rfl] at this
    rw [this, ← h, ← awIdx_all a b l 0]
    rfl
  · cases h

/-! ### impl_Shape_maySpread: function 114 -/

def impl_Shape_maySpread.f (a0_0 : Int) (a0_1 : Int) (a0_2 : Int) (a0_3 : Int) (a0_4 : Int) (a0_5 : Bool) : Option (Bool) := if a0_2 = 0 then (if a0_1 = 0 then (some true) else (if a0_3 = 0 then (some true) else (if a0_3 = 0 then (some (a0_4 == 0)) else (some false)))) else (if a0_3 = 0 then (some (a0_4 == 0)) else (some false))

def impl_Shape_maySpread.e (k : Nat) : Refl.Ent G := ⟨114, [(.agg [li, li, li, li, li, .bool])], .one (.c .bool), fun x => impl_Shape_maySpread.f x.1 x.2.1 x.2.2.1 x.2.2.2.1 x.2.2.2.2.1 x.2.2.2.2.2⟩
theorem impl_Shape_maySpread.ok (k : Nat) : Refl.EntOK Tryz.prog (impl_Shape_maySpread.e k) := Refl.ent_ok 1000000 k GC (fun k => []) (fun k => trivial) Tryz.func114 (by kernel_rfl) [] (ps := []) (by kernel_rfl) trivial (fun x => by kernel_rfl)

/-! ### impl_IsShape: function 60 -/

def impl_IsShape.f (a0_0 : Int) (a0_1 : Int) (a0_2 : Int) (a0_3 : Int) (a0_4 : Int) (a0_5 : Bool) : Option (Bool) := (some (([a0_0] : List Int) : List Int)).bind fun y305 => ((impl_Shape_bends.f a0_0 a0_1 a0_2 a0_3 a0_4 a0_5).bind fun t308 => (if Refl.appLen y305 t308 < 17592186044416 then ((impl_allWithin.f (y305 ++ t308) 0 2).bind fun t314 => (if t314 = true then (if a0_5 = true then ((impl_Shape_maySpread.f a0_0 a0_1 a0_2 a0_3 a0_4 a0_5).bind fun t315 => (some t315)) else (some true)) else (some false))) else (none)))

def impl_IsShape.e (k : Nat) : Refl.Ent G := ⟨60, [(.agg [li, li, li, li, li, .bool])], .one (.c .bool), fun x => impl_IsShape.f x.1 x.2.1 x.2.2.1 x.2.2.2.1 x.2.2.2.2.1 x.2.2.2.2.2⟩
theorem impl_IsShape.ok (k : Nat) : Refl.EntOK Tryz.prog (impl_IsShape.e k) := Refl.ent_ok 1000000 k GC (fun k => [impl_Shape_bends.e k, impl_allWithin.e k, impl_Shape_maySpread.e k]) (fun k => ⟨impl_Shape_bends.ok k, impl_allWithin.ok k, impl_Shape_maySpread.ok k, trivial⟩) Tryz.func60 (by kernel_rfl) [] (ps := []) (by kernel_rfl) trivial (fun x => by kernel_rfl)

/-! ### impl_IsOrient: function 61 -/

def impl_IsOrient.f (a0_0 : Int) (a0_1 : Int) : Option (Bool) := (impl_within.f a0_0 0 5).bind fun t317 => (if t317 = true then ((impl_within.f a0_1 0 5).bind fun t318 => (if t318 = true then (some ((wrap64 (Int.tdiv a0_0 2)) != (wrap64 (Int.tdiv a0_1 2)))) else (some false))) else (some false))

def impl_IsOrient.e (k : Nat) : Refl.Ent G := ⟨61, [(.agg [li, li])], .one (.c .bool), fun x => impl_IsOrient.f x.1 x.2⟩
theorem impl_IsOrient.ok (k : Nat) : Refl.EntOK Tryz.prog (impl_IsOrient.e k) := Refl.ent_ok 1000000 k GC (fun k => [impl_within.e k]) (fun k => ⟨impl_within.ok k, trivial⟩) Tryz.func61 (by kernel_rfl) [] (ps := []) (by kernel_rfl) trivial (fun x => by kernel_rfl)

/-! ### strings_IndexByte: function 139 -/

def strings_IndexByte.f (a0 : ByteArray) (a1 : Int) : Option Int := some (Lib.indexByte a0.data.toList a1.toNat.toUInt8)
theorem strings_IndexByte.calls (a0 : ByteArray) (a1 : Int) (r : Int) (w : World) (h : strings_IndexByte.f a0 a1 = some r) :
    Calls Tryz.prog 139 #[.string a0, .int .u8 a1] w fun e w' => e = .returned (.int .i64 r) ∧ Drawn0 w w' := by
  obtain rfl := Option.some.inj h
  exact (Tryz.strings_IndexByte a0 a1 w).mono fun e w' ⟨he, hw⟩ => ⟨he, hw ▸ Drawn0.refl _⟩

def strings_IndexByte.e (k : Nat) : Refl.Ent G := ⟨139, [(.c .str), (.c (.int .u8))], .one (.c li), fun x => strings_IndexByte.f x.1 x.2⟩
theorem strings_IndexByte.ok (k : Nat) : Refl.EntOK Tryz.prog (strings_IndexByte.e k) := Refl.entOK_hand Tryz.func139 (by kernel_rfl) (fun x => by kernel_rfl) (fun y => ⟨by kernel_rfl, by kernel_rfl, by kernel_rfl, by kernel_rfl⟩) (fun x y h w => (strings_IndexByte.calls x.1 x.2 y w h).mono fun e w' hh => ⟨hh.1, hh.2.below⟩)

/-! ### impl_hasOnly: function 115 -/

def impl_hasOnly.l0 : Nat → ByteArray → ByteArray → Int → Int → Option (Bool)
  | 0, _, _, _, _ => none
  | k + 1, x0, x1, x7, x8 => if x8 < x7 then (if 0 ≤ x8 then (if x8 < (x0.size : Int) then ((strings_IndexByte.f x1 (bt x0 x8)).bind fun t319 => (if t319 < 0 then (some false) else (impl_hasOnly.l0 k x0 x1 x7 (wrap64 (x8 + 1))))) else (none)) else (none)) else (some true)

def impl_hasOnly.f (k : Nat) (a0 : ByteArray) (a1 : ByteArray) : Option (Bool) := impl_hasOnly.l0 k a0 a1 (a0.size : Int) 0

theorem impl_hasOnly.mono_l : ∀ k, (∀ y0 y1 y2 y3, LeO (impl_hasOnly.l0 k y0 y1 y2 y3) (impl_hasOnly.l0 (k + 1) y0 y1 y2 y3))
  | 0 => fun _ _ _ _ r h => by simp [impl_hasOnly.l0] at h
  | k + 1 => by
    have ih0 := impl_hasOnly.mono_l k
    · intro y0 y1 y2 y3
      unfold impl_hasOnly.l0
      repeat' first
      | (with_reducible exact ih0 _ _ _ _)
      | (with_reducible exact LeO.refl _)
      | (with_reducible exact LeO.none _)
      | (with_reducible refine LeO.ite ?_ ?_)
      | (with_reducible refine LeO.bind ?_ (fun _ => ?_))
      | exact ih0 _ _ _ _
      | exact LeO.none _
      | refine LeO.ite ?_ ?_
      | refine LeO.bind ?_ (fun _ => ?_)

theorem impl_hasOnly.mono : ∀ a0 a1 k, LeO (impl_hasOnly.f k a0 a1) (impl_hasOnly.f (k + 1) a0 a1) := by
  intro a0 a1 k
  have ih0 := impl_hasOnly.mono_l k
  unfold impl_hasOnly.f
  repeat' first
      | (with_reducible exact ih0 _ _ _ _)
      | (with_reducible exact LeO.refl _)
      | (with_reducible exact LeO.none _)
      | (with_reducible refine LeO.ite ?_ ?_)
      | (with_reducible refine LeO.bind ?_ (fun _ => ?_))
      | exact ih0 _ _ _ _
      | exact LeO.none _
      | refine LeO.ite ?_ ?_
      | refine LeO.bind ?_ (fun _ => ?_)

def impl_hasOnly.e (k : Nat) : Refl.Ent G := ⟨115, [(.c .str), (.c .str)], .one (.c .bool), fun x => impl_hasOnly.f k x.1 x.2⟩
def impl_hasOnly.pl0 : Refl.Pn G (Refl.PT G (impl_hasOnly.e 0).ol) := ⟨true, 0, ⟨[(0, .v (.c .str)), (1, .v (.c .str)), (7, .v (.c li)), (8, .v (.c li)), (4, .k (Value.bool false))], []⟩, fun k x => impl_hasOnly.l0 k x.1 x.2.1 x.2.2.1 x.2.2.2⟩
theorem impl_hasOnly.ok (k : Nat) : Refl.EntOK Tryz.prog (impl_hasOnly.e k) := Refl.ent_ok 1000000 k GC (fun k => [strings_IndexByte.e k]) (fun k => ⟨strings_IndexByte.ok k, trivial⟩) Tryz.func115 (by kernel_rfl) [impl_hasOnly.pl0] (ps := [impl_hasOnly.pl0]) (by kernel_rfl) ⟨⟨fun x => by kernel_rfl, fun k x => by kernel_rfl⟩, trivial⟩ (fun x => by kernel_rfl)

/-! ### impl_IsMove: function 62 -/

def impl_IsMove.f (k : Nat) (a0_0 : ByteArray) (a0_1 : Int) : Option (Bool) := if (a0_0.size : Int) ≤ 6 then ((impl_hasOnly.f k a0_0 (⟨#[117, 100, 108, 114, 102, 98]⟩ : ByteArray)).bind fun t321 => (if t321 = true then ((impl_within.f a0_1 1 3).bind fun t322 => (if t322 = true then (if a0_0.toList = ([] : List UInt8) then (some (a0_1 == 1)) else (some true)) else (some false))) else (some false))) else (some false)

theorem impl_IsMove.mono : ∀ a0 a1 k, LeO (impl_IsMove.f k a0 a1) (impl_IsMove.f (k + 1) a0 a1) := by
  intro a0 a1 k
  unfold impl_IsMove.f
  repeat' first
      | (with_reducible exact impl_hasOnly.mono _ _ _)
      | (with_reducible exact LeO.refl _)
      | (with_reducible exact LeO.none _)
      | (with_reducible refine LeO.ite ?_ ?_)
      | (with_reducible refine LeO.bind ?_ (fun _ => ?_))
      | exact impl_hasOnly.mono _ _ _
      | exact LeO.none _
      | refine LeO.ite ?_ ?_
      | refine LeO.bind ?_ (fun _ => ?_)

def impl_IsMove.e (k : Nat) : Refl.Ent G := ⟨62, [(.agg [.str, li])], .one (.c .bool), fun x => impl_IsMove.f k x.1 x.2⟩
theorem impl_IsMove.ok (k : Nat) : Refl.EntOK Tryz.prog (impl_IsMove.e k) := Refl.ent_ok 1000000 k GC (fun k => [impl_hasOnly.e k, impl_within.e k]) (fun k => ⟨impl_hasOnly.ok k, impl_within.ok k, trivial⟩) Tryz.func62 (by kernel_rfl) [] (ps := []) (by kernel_rfl) trivial (fun x => by kernel_rfl)

theorem impl_IsMove.calls (k : Nat) (a0_0 : ByteArray) (a0_1 : Int) (r : Bool) (w : World) (h : impl_IsMove.f k a0_0 a0_1 = some r) :
    Calls Tryz.prog 62 #[.agg #[.string a0_0, .int .i64 a0_1]] w fun e w' => e = .returned (.bool r) ∧ Below w.heap.size w w' :=
 Refl.EntOK.flat (impl_IsMove.ok k) (a0_0, a0_1) r h (by kernel_rfl) (by kernel_rfl) (by kernel_rfl) (by kernel_rfl) w

end Go.Proofs.YtcicpmhcmlfhbaaGreatDoor.PA
