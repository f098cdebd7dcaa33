-- Written by a program of this session (wip/tools/myprint.py). Not trusted: Lean checks it.
import Derived.Test.YtojfncpjgpklhaaGreatDoorCtx
import Derived.Test.YtojfncpjgpklhaaGreatDoorPAx1
import Derived.Test.YtojfncpjgpklhaaGreatDoorPAx2
import Derived.Test.YtojfncpjgpklhaaGreatDoorPAx3
import Derived.Test.YtojfncpjgpklhaaGreatDoorPAx4
import Derived.Test.YtojfncpjgpklhaaGreatDoorPAx7
import Derived.Test.YtojfncpjgpklhaaGreatDoorPAx9
import Derived.Test.YtojfncpjgpklhaaGreatDoorPAx10
namespace Go.Proofs.YtojfncpjgpklhaaGreatDoor.PA
open Go.RowKit Go.Proofs.YtojfncpjgpklhaaGreatDoorW.PrintWords Go.Proofs.YtojfncpjgpklhaaGreatDoorW.PrintLast Go.Proofs.YtojfncpjgpklhaaGreatDoorW.PrintMore
attribute [local go_sem] max2_int min2_int max_two min_two max_three min_three max_four min_four   -- for this text's walks alone
set_option linter.unusedVariables false
set_option linter.unusedSimpArgs false

attribute [local go_sem high] eqA37 eqA38 eqA39 eqA40
/-! ### spec_CommonParts: function 31 -/

def spec_CommonParts.l0 : Nat → Int → List Bool → Int → Int → Option (Int × Bool)
  | 0, _, _, _, _ => none
  | k + 1, x8, x41, x42, x43 => if x43 < x42 then (if 0 ≤ x43 then (if x43 < (x41.length : Int) then (if rdOf false x41 x43 = true then (spec_CommonParts.l0 k (wrap64 (x8 + 1)) x41 x42 (wrap64 (x43 + 1))) else (spec_CommonParts.l0 k x8 x41 x42 (wrap64 (x43 + 1)))) else (none)) else (none)) else (some (x8, true))

def spec_CommonParts.f (k : Nat) (a0_0 : Int) (a0_1 : Int) (a0_2 : Int) (a0_3 : Int) (a0_4 : Int) (a0_5 : Bool) (a0_6 : Int) (a0_7 : Int) (a0_8 : Int) (a0_9 : Int) (a0_10 : Bool) (a0_11 : ByteArray) (a0_12 : Int) (a0_13 : Bool) (a0_14 : Int) (a0_15 : Int) (a0_16 : Int) (a0_17 : Int) (a0_18 : Int) (a0_19 : Bool) (a0_20 : Int) (a0_21 : Int) (a0_22 : Int) (a0_23 : Int) (a0_24 : Bool) (a0_25 : ByteArray) (a0_26 : Int) (a1_0 : Int) (a1_1 : Int) (a1_2 : Int) (a1_3 : Int) (a1_4 : Int) (a1_5 : Bool) (a1_6 : Int) (a1_7 : Int) (a1_8 : Int) (a1_9 : Int) (a1_10 : Bool) (a1_11 : ByteArray) (a1_12 : Int) (a1_13 : Bool) (a1_14 : Int) (a1_15 : Int) (a1_16 : Int) (a1_17 : Int) (a1_18 : Int) (a1_19 : Bool) (a1_20 : Int) (a1_21 : Int) (a1_22 : Int) (a1_23 : Int) (a1_24 : Bool) (a1_25 : ByteArray) (a1_26 : Int) : Option (Int × Bool) := (spec_feBoth.f k a0_0 a0_1 a0_2 a0_3 a0_4 a0_5 a0_6 a0_7 a0_8 a0_9 a0_10 a0_11 a0_12 a0_13 a0_14 a0_15 a0_16 a0_17 a0_18 a0_19 a0_20 a0_21 a0_22 a0_23 a0_24 a0_25 a0_26 a1_0 a1_1 a1_2 a1_3 a1_4 a1_5 a1_6 a1_7 a1_8 a1_9 a1_10 a1_11 a1_12 a1_13 a1_14 a1_15 a1_16 a1_17 a1_18 a1_19 a1_20 a1_21 a1_22 a1_23 a1_24 a1_25 a1_26).bind fun t312 => (if t312 = true then ((spec_noForm.f k a0_0 a0_1 a0_2 a0_3 a0_4 a0_5 a0_6 a0_7 a0_8 a0_9 a0_10 a0_11 a0_12 a0_13 a0_14 a0_15 a0_16 a0_17 a0_18 a0_19 a0_20 a0_21 a0_22 a0_23 a0_24 a0_25 a0_26).bind fun bt313 => ((spec_noForm.f k a1_0 a1_1 a1_2 a1_3 a1_4 a1_5 a1_6 a1_7 a1_8 a1_9 a1_10 a1_11 a1_12 a1_13 a1_14 a1_15 a1_16 a1_17 a1_18 a1_19 a1_20 a1_21 a1_22 a1_23 a1_24 a1_25 a1_26).bind fun bt340 => ((some (([(bt313.1 == bt340.1 && (bt313.2.1 == bt340.2.1 && (bt313.2.2.1 == bt340.2.2.1 && (bt313.2.2.2.1 == bt340.2.2.2.1 && (bt313.2.2.2.2.1 == bt340.2.2.2.2.1 && (bt313.2.2.2.2.2.1 == bt340.2.2.2.2.2.1)))))), (bt313.2.2.2.2.2.2.1 == bt340.2.2.2.2.2.2.1 && (bt313.2.2.2.2.2.2.2.1 == bt340.2.2.2.2.2.2.2.1)), (bt313.2.2.2.2.2.2.2.2.1 == bt340.2.2.2.2.2.2.2.2.1 && (bt313.2.2.2.2.2.2.2.2.2.1 == bt340.2.2.2.2.2.2.2.2.2.1 && (bt313.2.2.2.2.2.2.2.2.2.2.1 == bt340.2.2.2.2.2.2.2.2.2.2.1))), (bt313.2.2.2.2.2.2.2.2.2.2.2.1.toList == bt340.2.2.2.2.2.2.2.2.2.2.2.1.toList && (bt313.2.2.2.2.2.2.2.2.2.2.2.2.1 == bt340.2.2.2.2.2.2.2.2.2.2.2.2.1))] : List Bool) : List Bool)).bind fun y369 => (spec_CommonParts.l0 k 0 y369 (y369.length : Int) 0)))) else (some (0, false)))

theorem spec_CommonParts.mono_l : ∀ k, (∀ y0 y1 y2 y3, LeO (spec_CommonParts.l0 k y0 y1 y2 y3) (spec_CommonParts.l0 (k + 1) y0 y1 y2 y3))
  | 0 => fun _ _ _ _ r h => by simp [spec_CommonParts.l0] at h
  | k + 1 => by
    have ih0 := spec_CommonParts.mono_l k
    · intro y0 y1 y2 y3
      unfold spec_CommonParts.l0
      repeat' first
      | (with_reducible exact ih0 _ _ _ _)
      | (with_reducible exact spec_feBoth.mono _ _ _ _ _ _ _ _ _ _ _ _ _ _ _ _ _ _ _ _ _ _ _ _ _ _ _ _ _ _ _ _ _ _ _ _ _ _ _ _ _ _ _ _ _ _ _ _ _ _ _ _ _ _ _)
      | (with_reducible exact spec_noForm.mono _ _ _ _ _ _ _ _ _ _ _ _ _ _ _ _ _ _ _ _ _ _ _ _ _ _ _ _)
      | (with_reducible exact LeO.refl _)
      | (with_reducible exact LeO.none _)
      | (with_reducible refine LeO.ite ?_ ?_)
      | (with_reducible refine LeO.bind ?_ (fun _ => ?_))
      | exact ih0 _ _ _ _
      | exact spec_feBoth.mono _ _ _ _ _ _ _ _ _ _ _ _ _ _ _ _ _ _ _ _ _ _ _ _ _ _ _ _ _ _ _ _ _ _ _ _ _ _ _ _ _ _ _ _ _ _ _ _ _ _ _ _ _ _ _
      | exact spec_noForm.mono _ _ _ _ _ _ _ _ _ _ _ _ _ _ _ _ _ _ _ _ _ _ _ _ _ _ _ _
      | exact LeO.none _
      | refine LeO.ite ?_ ?_
      | refine LeO.bind ?_ (fun _ => ?_)

theorem spec_CommonParts.mono : ∀ a0 a1 a2 a3 a4 a5 a6 a7 a8 a9 a10 a11 a12 a13 a14 a15 a16 a17 a18 a19 a20 a21 a22 a23 a24 a25 a26 a27 a28 a29 a30 a31 a32 a33 a34 a35 a36 a37 a38 a39 a40 a41 a42 a43 a44 a45 a46 a47 a48 a49 a50 a51 a52 a53 k, LeO (spec_CommonParts.f k a0 a1 a2 a3 a4 a5 a6 a7 a8 a9 a10 a11 a12 a13 a14 a15 a16 a17 a18 a19 a20 a21 a22 a23 a24 a25 a26 a27 a28 a29 a30 a31 a32 a33 a34 a35 a36 a37 a38 a39 a40 a41 a42 a43 a44 a45 a46 a47 a48 a49 a50 a51 a52 a53) (spec_CommonParts.f (k + 1) a0 a1 a2 a3 a4 a5 a6 a7 a8 a9 a10 a11 a12 a13 a14 a15 a16 a17 a18 a19 a20 a21 a22 a23 a24 a25 a26 a27 a28 a29 a30 a31 a32 a33 a34 a35 a36 a37 a38 a39 a40 a41 a42 a43 a44 a45 a46 a47 a48 a49 a50 a51 a52 a53) := by
  intro a0 a1 a2 a3 a4 a5 a6 a7 a8 a9 a10 a11 a12 a13 a14 a15 a16 a17 a18 a19 a20 a21 a22 a23 a24 a25 a26 a27 a28 a29 a30 a31 a32 a33 a34 a35 a36 a37 a38 a39 a40 a41 a42 a43 a44 a45 a46 a47 a48 a49 a50 a51 a52 a53 k
  have ih0 := spec_CommonParts.mono_l k
  unfold spec_CommonParts.f
  repeat' first
      | (with_reducible exact ih0 _ _ _ _)
      | (with_reducible exact spec_feBoth.mono _ _ _ _ _ _ _ _ _ _ _ _ _ _ _ _ _ _ _ _ _ _ _ _ _ _ _ _ _ _ _ _ _ _ _ _ _ _ _ _ _ _ _ _ _ _ _ _ _ _ _ _ _ _ _)
      | (with_reducible exact spec_noForm.mono _ _ _ _ _ _ _ _ _ _ _ _ _ _ _ _ _ _ _ _ _ _ _ _ _ _ _ _)
      | (with_reducible exact LeO.refl _)
      | (with_reducible exact LeO.none _)
      | (with_reducible refine LeO.ite ?_ ?_)
      | (with_reducible refine LeO.bind ?_ (fun _ => ?_))
      | exact ih0 _ _ _ _
      | exact spec_feBoth.mono _ _ _ _ _ _ _ _ _ _ _ _ _ _ _ _ _ _ _ _ _ _ _ _ _ _ _ _ _ _ _ _ _ _ _ _ _ _ _ _ _ _ _ _ _ _ _ _ _ _ _ _ _ _ _
      | exact spec_noForm.mono _ _ _ _ _ _ _ _ _ _ _ _ _ _ _ _ _ _ _ _ _ _ _ _ _ _ _ _
      | exact LeO.none _
      | refine LeO.ite ?_ ?_
      | refine LeO.bind ?_ (fun _ => ?_)

def spec_CommonParts.e (k : Nat) : Refl.Ent G := ⟨31, [(.agg gL1), (.agg gL1)], .tup [(.c li), (.c .bool)], fun x => spec_CommonParts.f k x.1 x.2.1 x.2.2.1 x.2.2.2.1 x.2.2.2.2.1 x.2.2.2.2.2.1 x.2.2.2.2.2.2.1 x.2.2.2.2.2.2.2.1 x.2.2.2.2.2.2.2.2.1 x.2.2.2.2.2.2.2.2.2.1 x.2.2.2.2.2.2.2.2.2.2.1 x.2.2.2.2.2.2.2.2.2.2.2.1 x.2.2.2.2.2.2.2.2.2.2.2.2.1 x.2.2.2.2.2.2.2.2.2.2.2.2.2.1 x.2.2.2.2.2.2.2.2.2.2.2.2.2.2.1 x.2.2.2.2.2.2.2.2.2.2.2.2.2.2.2.1 x.2.2.2.2.2.2.2.2.2.2.2.2.2.2.2.2.1 x.2.2.2.2.2.2.2.2.2.2.2.2.2.2.2.2.2.1 x.2.2.2.2.2.2.2.2.2.2.2.2.2.2.2.2.2.2.1 x.2.2.2.2.2.2.2.2.2.2.2.2.2.2.2.2.2.2.2.1 x.2.2.2.2.2.2.2.2.2.2.2.2.2.2.2.2.2.2.2.2.1 x.2.2.2.2.2.2.2.2.2.2.2.2.2.2.2.2.2.2.2.2.2.1 x.2.2.2.2.2.2.2.2.2.2.2.2.2.2.2.2.2.2.2.2.2.2.1 x.2.2.2.2.2.2.2.2.2.2.2.2.2.2.2.2.2.2.2.2.2.2.2.1 x.2.2.2.2.2.2.2.2.2.2.2.2.2.2.2.2.2.2.2.2.2.2.2.2.1 x.2.2.2.2.2.2.2.2.2.2.2.2.2.2.2.2.2.2.2.2.2.2.2.2.2.1 x.2.2.2.2.2.2.2.2.2.2.2.2.2.2.2.2.2.2.2.2.2.2.2.2.2.2.1 x.2.2.2.2.2.2.2.2.2.2.2.2.2.2.2.2.2.2.2.2.2.2.2.2.2.2.2.1 x.2.2.2.2.2.2.2.2.2.2.2.2.2.2.2.2.2.2.2.2.2.2.2.2.2.2.2.2.1 x.2.2.2.2.2.2.2.2.2.2.2.2.2.2.2.2.2.2.2.2.2.2.2.2.2.2.2.2.2.1 x.2.2.2.2.2.2.2.2.2.2.2.2.2.2.2.2.2.2.2.2.2.2.2.2.2.2.2.2.2.2.1 x.2.2.2.2.2.2.2.2.2.2.2.2.2.2.2.2.2.2.2.2.2.2.2.2.2.2.2.2.2.2.2.1 x.2.2.2.2.2.2.2.2.2.2.2.2.2.2.2.2.2.2.2.2.2.2.2.2.2.2.2.2.2.2.2.2.1 x.2.2.2.2.2.2.2.2.2.2.2.2.2.2.2.2.2.2.2.2.2.2.2.2.2.2.2.2.2.2.2.2.2.1 x.2.2.2.2.2.2.2.2.2.2.2.2.2.2.2.2.2.2.2.2.2.2.2.2.2.2.2.2.2.2.2.2.2.2.1 x.2.2.2.2.2.2.2.2.2.2.2.2.2.2.2.2.2.2.2.2.2.2.2.2.2.2.2.2.2.2.2.2.2.2.2.1 x.2.2.2.2.2.2.2.2.2.2.2.2.2.2.2.2.2.2.2.2.2.2.2.2.2.2.2.2.2.2.2.2.2.2.2.2.1 x.2.2.2.2.2.2.2.2.2.2.2.2.2.2.2.2.2.2.2.2.2.2.2.2.2.2.2.2.2.2.2.2.2.2.2.2.2.1 x.2.2.2.2.2.2.2.2.2.2.2.2.2.2.2.2.2.2.2.2.2.2.2.2.2.2.2.2.2.2.2.2.2.2.2.2.2.2.1 x.2.2.2.2.2.2.2.2.2.2.2.2.2.2.2.2.2.2.2.2.2.2.2.2.2.2.2.2.2.2.2.2.2.2.2.2.2.2.2.1 x.2.2.2.2.2.2.2.2.2.2.2.2.2.2.2.2.2.2.2.2.2.2.2.2.2.2.2.2.2.2.2.2.2.2.2.2.2.2.2.2.1 x.2.2.2.2.2.2.2.2.2.2.2.2.2.2.2.2.2.2.2.2.2.2.2.2.2.2.2.2.2.2.2.2.2.2.2.2.2.2.2.2.2.1 x.2.2.2.2.2.2.2.2.2.2.2.2.2.2.2.2.2.2.2.2.2.2.2.2.2.2.2.2.2.2.2.2.2.2.2.2.2.2.2.2.2.2.1 x.2.2.2.2.2.2.2.2.2.2.2.2.2.2.2.2.2.2.2.2.2.2.2.2.2.2.2.2.2.2.2.2.2.2.2.2.2.2.2.2.2.2.2.1 x.2.2.2.2.2.2.2.2.2.2.2.2.2.2.2.2.2.2.2.2.2.2.2.2.2.2.2.2.2.2.2.2.2.2.2.2.2.2.2.2.2.2.2.2.1 x.2.2.2.2.2.2.2.2.2.2.2.2.2.2.2.2.2.2.2.2.2.2.2.2.2.2.2.2.2.2.2.2.2.2.2.2.2.2.2.2.2.2.2.2.2.1 x.2.2.2.2.2.2.2.2.2.2.2.2.2.2.2.2.2.2.2.2.2.2.2.2.2.2.2.2.2.2.2.2.2.2.2.2.2.2.2.2.2.2.2.2.2.2.1 x.2.2.2.2.2.2.2.2.2.2.2.2.2.2.2.2.2.2.2.2.2.2.2.2.2.2.2.2.2.2.2.2.2.2.2.2.2.2.2.2.2.2.2.2.2.2.2.1 x.2.2.2.2.2.2.2.2.2.2.2.2.2.2.2.2.2.2.2.2.2.2.2.2.2.2.2.2.2.2.2.2.2.2.2.2.2.2.2.2.2.2.2.2.2.2.2.2.1 x.2.2.2.2.2.2.2.2.2.2.2.2.2.2.2.2.2.2.2.2.2.2.2.2.2.2.2.2.2.2.2.2.2.2.2.2.2.2.2.2.2.2.2.2.2.2.2.2.2.1 x.2.2.2.2.2.2.2.2.2.2.2.2.2.2.2.2.2.2.2.2.2.2.2.2.2.2.2.2.2.2.2.2.2.2.2.2.2.2.2.2.2.2.2.2.2.2.2.2.2.2.1 x.2.2.2.2.2.2.2.2.2.2.2.2.2.2.2.2.2.2.2.2.2.2.2.2.2.2.2.2.2.2.2.2.2.2.2.2.2.2.2.2.2.2.2.2.2.2.2.2.2.2.2.1 x.2.2.2.2.2.2.2.2.2.2.2.2.2.2.2.2.2.2.2.2.2.2.2.2.2.2.2.2.2.2.2.2.2.2.2.2.2.2.2.2.2.2.2.2.2.2.2.2.2.2.2.2.1 x.2.2.2.2.2.2.2.2.2.2.2.2.2.2.2.2.2.2.2.2.2.2.2.2.2.2.2.2.2.2.2.2.2.2.2.2.2.2.2.2.2.2.2.2.2.2.2.2.2.2.2.2.2⟩
def spec_CommonParts.pl0 : Refl.Pn G (Refl.PT G (spec_CommonParts.e 0).ol) := ⟨true, 0, ⟨[(8, .v (.c li)), (41, .v (.c (.row 4 false))), (42, .v (.c li)), (43, .v (.c li)), (4, .k (Value.int IntKind.i64 0)), (5, .k (Value.bool false))], []⟩, fun k x => spec_CommonParts.l0 k x.1 x.2.1 x.2.2.1 x.2.2.2⟩
theorem spec_CommonParts.ok (k : Nat) : Refl.EntOK Tryz.prog (spec_CommonParts.e k) := Refl.ent_ok 1000000 k GC (fun k => [spec_feBoth.e k, spec_noForm.e k]) (fun k => ⟨spec_feBoth.ok k, spec_noForm.ok k, trivial⟩) Tryz.func31 (by kernel_rfl) [spec_CommonParts.pl0] (ps := [spec_CommonParts.pl0]) (by kernel_rfl) ⟨⟨fun x => by kernel_rfl, fun k x => by kernel_rfl⟩, trivial⟩ (fun x => by kernel_rfl)

/-! ### impl_moveOf: function 163 -/

def impl_moveOf.l0 : Nat → ByteArray → Int → Option (ByteArray × Int × Bool)
  | 0, _, _ => none
  | k + 1, x0, x4 => if x4 ≥ 1 then (if x4 = 0 then (none) else (if 0 ≤ (wrap64 (Int.tdiv (x0.size : Int) x4)) then (if (wrap64 (Int.tdiv (x0.size : Int) x4)) ≤ (x0.size : Int) then (if ((x0.extract 0 ((wrap64 (Int.tdiv (x0.size : Int) x4)) : Int).toNat).size : Int) ≤ 6 then ((strings_Repeat.f (x0.extract 0 ((wrap64 (Int.tdiv (x0.size : Int) x4)) : Int).toNat) x4).bind fun t474 => (if t474.toList = x0.toList then (some (x0.extract 0 ((wrap64 (Int.tdiv (x0.size : Int) x4)) : Int).toNat, x4, true)) else (impl_moveOf.l0 k x0 (wrap64 (x4 - 1))))) else (impl_moveOf.l0 k x0 (wrap64 (x4 - 1)))) else (none)) else (none))) else (some ((⟨#[]⟩ : ByteArray), 0, false))

def impl_moveOf.f (k : Nat) (a0 : ByteArray) : Option (ByteArray × Int × Bool) := if a0.toList = ([] : List UInt8) then (some ((⟨#[]⟩ : ByteArray), 1, true)) else (impl_moveOf.l0 k a0 3)

theorem impl_moveOf.mono_l : ∀ k, (∀ y0 y1, LeO (impl_moveOf.l0 k y0 y1) (impl_moveOf.l0 (k + 1) y0 y1))
  | 0 => fun _ _ r h => by simp [impl_moveOf.l0] at h
  | k + 1 => by
    have ih0 := impl_moveOf.mono_l k
    · intro y0 y1
      unfold impl_moveOf.l0
      repeat' first
      | (with_reducible exact ih0 _ _)
      | (with_reducible exact LeO.refl _)
      | (with_reducible exact LeO.none _)
      | (with_reducible refine LeO.ite ?_ ?_)
      | (with_reducible refine LeO.bind ?_ (fun _ => ?_))
      | exact ih0 _ _
      | exact LeO.none _
      | refine LeO.ite ?_ ?_
      | refine LeO.bind ?_ (fun _ => ?_)

theorem impl_moveOf.mono : ∀ a0 k, LeO (impl_moveOf.f k a0) (impl_moveOf.f (k + 1) a0) := by
  intro a0 k
  have ih0 := impl_moveOf.mono_l k
  unfold impl_moveOf.f
  repeat' first
      | (with_reducible exact ih0 _ _)
      | (with_reducible exact LeO.refl _)
      | (with_reducible exact LeO.none _)
      | (with_reducible refine LeO.ite ?_ ?_)
      | (with_reducible refine LeO.bind ?_ (fun _ => ?_))
      | exact ih0 _ _
      | exact LeO.none _
      | refine LeO.ite ?_ ?_
      | refine LeO.bind ?_ (fun _ => ?_)

def impl_moveOf.e (k : Nat) : Refl.Ent G := ⟨163, [(.c .str)], .tup [(.agg [.str, li]), (.c .bool)], fun x => impl_moveOf.f k x⟩
def impl_moveOf.pl0 : Refl.Pn G (Refl.PT G (impl_moveOf.e 0).ol) := ⟨true, 0, ⟨[(0, .v (.c .str)), (4, .v (.c li)), (2, .box 2 0), (3, .k (Value.bool false))], [(2, 40, gL4)]⟩, fun k x => impl_moveOf.l0 k x.1 x.2⟩
theorem impl_moveOf.ok (k : Nat) : Refl.EntOK Tryz.prog (impl_moveOf.e k) := Refl.ent_ok 1000000 k GC (fun k => [strings_Repeat.e k]) (fun k => ⟨strings_Repeat.ok k, trivial⟩) Tryz.func163 (by kernel_rfl) [impl_moveOf.pl0] (ps := [impl_moveOf.pl0]) (by kernel_rfl) ⟨⟨fun x => by kernel_rfl, fun k x => by kernel_rfl⟩, trivial⟩ (fun x => by kernel_rfl)

/-! ### impl_Move_normal: function 116 -/

def impl_Move_normal.f (k : Nat) (a0_0 : ByteArray) (a0_1 : Int) : Option (ByteArray × Int) := (impl_Move_all.f a0_0 a0_1).bind fun t477 => ((impl_moveOf.f k t477).bind fun bt478 => (some (bt478.1, bt478.2.1)))

theorem impl_Move_normal.mono : ∀ a0 a1 k, LeO (impl_Move_normal.f k a0 a1) (impl_Move_normal.f (k + 1) a0 a1) := by
  intro a0 a1 k
  unfold impl_Move_normal.f
  repeat' first
      | (with_reducible exact impl_moveOf.mono _ _)
      | (with_reducible exact LeO.refl _)
      | (with_reducible exact LeO.none _)
      | (with_reducible refine LeO.ite ?_ ?_)
      | (with_reducible refine LeO.bind ?_ (fun _ => ?_))
      | exact impl_moveOf.mono _ _
      | exact LeO.none _
      | refine LeO.ite ?_ ?_
      | refine LeO.bind ?_ (fun _ => ?_)

def impl_Move_normal.e (k : Nat) : Refl.Ent G := ⟨116, [(.agg [.str, li])], .one (.agg [.str, li]), fun x => impl_Move_normal.f k x.1 x.2⟩
theorem impl_Move_normal.ok (k : Nat) : Refl.EntOK Tryz.prog (impl_Move_normal.e k) := Refl.ent_ok 1000000 k GC (fun k => [impl_Move_all.e k, impl_moveOf.e k]) (fun k => ⟨impl_Move_all.ok k, impl_moveOf.ok k, trivial⟩) Tryz.func116 (by kernel_rfl) [] (ps := []) (by kernel_rfl) trivial (fun x => by kernel_rfl)

/-! ### impl_Hand_normal: function 72 -/

def impl_Hand_normal.f (k : Nat) (a0_0 : Int) (a0_1 : Int) (a0_2 : Int) (a0_3 : Int) (a0_4 : Int) (a0_5 : Bool) (a0_6 : Int) (a0_7 : Int) (a0_8 : Int) (a0_9 : Int) (a0_10 : Bool) (a0_11 : ByteArray) (a0_12 : Int) : Option (Int × Int × Int × Int × Int × Bool × Int × Int × Int × Int × Bool × ByteArray × Int) := (impl_Move_normal.f k a0_11 a0_12).bind fun bt484 => (some (a0_0, a0_1, a0_2, a0_3, a0_4, a0_5, a0_6, a0_7, a0_8, a0_9, a0_10, bt484.1, bt484.2))

theorem impl_Hand_normal.mono : ∀ a0 a1 a2 a3 a4 a5 a6 a7 a8 a9 a10 a11 a12 k, LeO (impl_Hand_normal.f k a0 a1 a2 a3 a4 a5 a6 a7 a8 a9 a10 a11 a12) (impl_Hand_normal.f (k + 1) a0 a1 a2 a3 a4 a5 a6 a7 a8 a9 a10 a11 a12) := by
  intro a0 a1 a2 a3 a4 a5 a6 a7 a8 a9 a10 a11 a12 k
  unfold impl_Hand_normal.f
  repeat' first
      | (with_reducible exact impl_Move_normal.mono _ _ _)
      | (with_reducible exact LeO.refl _)
      | (with_reducible exact LeO.none _)
      | (with_reducible refine LeO.ite ?_ ?_)
      | (with_reducible refine LeO.bind ?_ (fun _ => ?_))
      | exact impl_Move_normal.mono _ _ _
      | exact LeO.none _
      | refine LeO.ite ?_ ?_
      | refine LeO.bind ?_ (fun _ => ?_)

def impl_Hand_normal.e (k : Nat) : Refl.Ent G := ⟨72, [(.agg gL0)], .one (.agg gL0), fun x => impl_Hand_normal.f k x.1 x.2.1 x.2.2.1 x.2.2.2.1 x.2.2.2.2.1 x.2.2.2.2.2.1 x.2.2.2.2.2.2.1 x.2.2.2.2.2.2.2.1 x.2.2.2.2.2.2.2.2.1 x.2.2.2.2.2.2.2.2.2.1 x.2.2.2.2.2.2.2.2.2.2.1 x.2.2.2.2.2.2.2.2.2.2.2.1 x.2.2.2.2.2.2.2.2.2.2.2.2⟩
theorem impl_Hand_normal.ok (k : Nat) : Refl.EntOK Tryz.prog (impl_Hand_normal.e k) := Refl.ent_ok 1000000 k GC (fun k => [impl_Move_normal.e k]) (fun k => ⟨impl_Move_normal.ok k, trivial⟩) Tryz.func72 (by kernel_rfl) [] (ps := []) (by kernel_rfl) trivial (fun x => by kernel_rfl)

/-! ### impl_Sign_kind: function 73 -/

def impl_Sign_kind.f (a0_0 : Int) (a0_1 : Int) (a0_2 : Int) (a0_3 : Int) (a0_4 : Int) (a0_5 : Bool) (a0_6 : Int) (a0_7 : Int) (a0_8 : Int) (a0_9 : Int) (a0_10 : Bool) (a0_11 : ByteArray) (a0_12 : Int) (a0_13 : Bool) (a0_14 : Int) (a0_15 : Int) (a0_16 : Int) (a0_17 : Int) (a0_18 : Int) (a0_19 : Bool) (a0_20 : Int) (a0_21 : Int) (a0_22 : Int) (a0_23 : Int) (a0_24 : Bool) (a0_25 : ByteArray) (a0_26 : Int) : Option (Int) := if a0_13 = true then ((impl_Hand_moves.f a0_14 a0_15 a0_16 a0_17 a0_18 a0_19 a0_20 a0_21 a0_22 a0_23 a0_24 a0_25 a0_26).bind fun t487 => (if t487 = true then (some 1) else (if (a0_14 == a0_0 && (a0_15 == a0_1 && (a0_16 == a0_2 && (a0_17 == a0_3 && (a0_18 == a0_4 && (a0_19 == a0_5)))))) = true then (some 2) else (some 3)))) else (some 0)

def impl_Sign_kind.e (k : Nat) : Refl.Ent G := ⟨73, [(.agg gL1)], .one (.c li), fun x => impl_Sign_kind.f x.1 x.2.1 x.2.2.1 x.2.2.2.1 x.2.2.2.2.1 x.2.2.2.2.2.1 x.2.2.2.2.2.2.1 x.2.2.2.2.2.2.2.1 x.2.2.2.2.2.2.2.2.1 x.2.2.2.2.2.2.2.2.2.1 x.2.2.2.2.2.2.2.2.2.2.1 x.2.2.2.2.2.2.2.2.2.2.2.1 x.2.2.2.2.2.2.2.2.2.2.2.2.1 x.2.2.2.2.2.2.2.2.2.2.2.2.2.1 x.2.2.2.2.2.2.2.2.2.2.2.2.2.2.1 x.2.2.2.2.2.2.2.2.2.2.2.2.2.2.2.1 x.2.2.2.2.2.2.2.2.2.2.2.2.2.2.2.2.1 x.2.2.2.2.2.2.2.2.2.2.2.2.2.2.2.2.2.1 x.2.2.2.2.2.2.2.2.2.2.2.2.2.2.2.2.2.2.1 x.2.2.2.2.2.2.2.2.2.2.2.2.2.2.2.2.2.2.2.1 x.2.2.2.2.2.2.2.2.2.2.2.2.2.2.2.2.2.2.2.2.1 x.2.2.2.2.2.2.2.2.2.2.2.2.2.2.2.2.2.2.2.2.2.1 x.2.2.2.2.2.2.2.2.2.2.2.2.2.2.2.2.2.2.2.2.2.2.1 x.2.2.2.2.2.2.2.2.2.2.2.2.2.2.2.2.2.2.2.2.2.2.2.1 x.2.2.2.2.2.2.2.2.2.2.2.2.2.2.2.2.2.2.2.2.2.2.2.2.1 x.2.2.2.2.2.2.2.2.2.2.2.2.2.2.2.2.2.2.2.2.2.2.2.2.2.1 x.2.2.2.2.2.2.2.2.2.2.2.2.2.2.2.2.2.2.2.2.2.2.2.2.2.2⟩
theorem impl_Sign_kind.ok (k : Nat) : Refl.EntOK Tryz.prog (impl_Sign_kind.e k) := Refl.ent_ok 1000000 k GC (fun k => [impl_Hand_moves.e k]) (fun k => ⟨impl_Hand_moves.ok k, trivial⟩) Tryz.func73 (by kernel_rfl) [] (ps := []) (by kernel_rfl) trivial (fun x => by kernel_rfl)

/-! ### strings_Join: function 117 -/

def strings_Join.f (l0 : List ByteArray) (a1 : ByteArray) : Option ByteArray :=
  if l0.length ≤ 140737488355328 ∧ (Lib.join (l0.map (·.data.toList)) a1.data.toList).length ≤ 140737488355328 then some ⟨(Lib.join (l0.map (·.data.toList)) a1.data.toList).toArray⟩ else none

def strings_Join.e (k : Nat) : Refl.Ent G := ⟨117, [(.c (.row 9 false)), (.c .str)], .one (.c .str), fun x => strings_Join.f x.1 x.2⟩
theorem join_enc : ∀ (xs : List ByteArray) (j : Nat), (xs.flatMap rkStr.enc)[j]? = xs[j]?.map fun x => Value.string x
  | [], _ => by simp
  | x :: xs, 0 => rfl
  | x :: xs, j + 1 => by
    have := join_enc xs j
    simpa [rkStr] using this
theorem join_calls (xs : List ByteArray) (sep y : ByteArray) (h : strings_Join.f xs sep = some y) (S : Nat → Nat → Prop) (w : World) (y0 y1 : Value) (h0 : Refl.RowRep w.heap.size S Refl.μ0 w rkStr 9 xs .ro y0) (h1 : y1 = .string sep) :
    Calls Tryz.prog 117 #[y0, y1] w fun en w' => en = .returned (.string y) ∧ Below w.heap.size w w' := by
  unfold strings_Join.f at h
  split at h
  · rename_i hc
    obtain rfl := Option.some.inj h
    obtain ⟨A, c, rfl, g1, g2, g3, _⟩ := h0
    subst h1
    cases xs with
    | nil => exact (Tryz.strings_Join_none A c sep w).mono fun e w' hh => ⟨hh.1, hh.2 ▸ Below.refl _ _⟩
    | cons x xs =>
      obtain ⟨b, off, rfl, hcell⟩ := g3 (by simp)
      refine Tryz.strings_Join b off c (x :: xs) sep w (fun j z hj => ?_) ?_ hc.1 g1 hc.2
      · exact (hcell j (.string z) (by rw [join_enc, hj]; rfl)).1
      · exact Refl.lt_of_cell (hcell 0 (.string x) (by rw [join_enc]; rfl)).1
  · cases h
theorem strings_Join.ok (k : Nat) : Refl.EntOK Tryz.prog (strings_Join.e k) := Refl.entOK_rep Tryz.func117 (by kernel_rfl) (fun y => ⟨by kernel_rfl, by kernel_rfl, by kernel_rfl, by kernel_rfl⟩) (fun x y h S w vals hv => by
  cases vals with
  | nil => exact hv.elim
  | cons y0 vals =>
    cases vals with
    | nil => exact hv.2.elim
    | cons y1 vals =>
      cases vals with
      | cons _ _ => exact hv.2.2.elim
      | nil => exact join_calls x.1 x.2 y h S w y0 y1 hv.1 hv.2.1)

/-! ### impl_Orient_text: function 119 -/

def impl_Orient_text.f (a0_0 : Int) (a0_1 : Int) : Option (ByteArray) := if 0 ≤ a0_0 then (if a0_0 ≤ (wrap64 (a0_0 + 1)) then (if (wrap64 (a0_0 + 1)) ≤ 6 then (if 0 ≤ a0_1 then (if a0_1 ≤ (wrap64 (a0_1 + 1)) then (if (wrap64 (a0_1 + 1)) ≤ 6 then (if ((⟨#[117, 100, 108, 114, 102, 98]⟩ : ByteArray).extract (a0_0 : Int).toNat ((wrap64 (a0_0 + 1)) : Int).toNat).size + ((⟨#[117, 100, 108, 114, 102, 98]⟩ : ByteArray).extract (a0_1 : Int).toNat ((wrap64 (a0_1 + 1)) : Int).toNat).size ≤ 9223372036854775807 then (some (((⟨#[117, 100, 108, 114, 102, 98]⟩ : ByteArray).extract (a0_0 : Int).toNat ((wrap64 (a0_0 + 1)) : Int).toNat) ++ ((⟨#[117, 100, 108, 114, 102, 98]⟩ : ByteArray).extract (a0_1 : Int).toNat ((wrap64 (a0_1 + 1)) : Int).toNat))) else (none)) else (none)) else (none)) else (none)) else (none)) else (none)) else (none)

def impl_Orient_text.e (k : Nat) : Refl.Ent G := ⟨119, [(.agg [li, li])], .one (.c .str), fun x => impl_Orient_text.f x.1 x.2⟩
theorem impl_Orient_text.ok (k : Nat) : Refl.EntOK Tryz.prog (impl_Orient_text.e k) := Refl.ent_ok 1000000 k GC (fun k => []) (fun k => trivial) Tryz.func119 (by kernel_rfl) [] (ps := []) (by kernel_rfl) trivial (fun x => by kernel_rfl)

/-! ### impl_Place_text: function 120 -/

def impl_Place_text.f (a0_0 : Int) (a0_1 : Int) (a0_2 : Bool) : Option ByteArray :=
  if 0 ≤ a0_0 ∧ a0_0 < 10 ∧ -1 ≤ a0_1 ∧ a0_1 ≤ 1 then some (plNms.getD a0_0.toNat ⟨#[]⟩ ++ plSide a0_1 ++ (if a0_2 = true then ⟨#[42]⟩ else ⟨#[]⟩)) else none
set_option maxHeartbeats 4000000 in
set_option maxRecDepth 100000 in
theorem plText_walk (k : Nat) (a0_1 : Int) (b : Bool) (w : World) (h1 : k < 10) (h2 : -1 ≤ a0_1) (h3 : a0_1 ≤ 1) :
    Calls Tryz.prog 120 #[.agg #[.int .i64 (k : Int), .int .i64 a0_1, .bool b]] w fun e w' => e = .returned (.string (plNms.getD k ⟨#[]⟩ ++ plSide a0_1 ++ (if b = true then ⟨#[42]⟩ else ⟨#[]⟩))) ∧ Below w.heap.size w w' := by
  have hc : ∀ o, ((w.alloc o).alloc (Obj.cells #[Value.string { data := #[115, 112, 97, 99, 101] }, Value.string { data := #[104, 101, 97, 100] }, Value.string { data := #[101, 121, 101] }, Value.string { data := #[99, 104, 101, 101, 107] }, Value.string { data := #[109, 111, 117, 116, 104] }, Value.string { data := #[99, 104, 105, 110] }, Value.string { data := #[110, 101, 99, 107] }, Value.string { data := #[99, 104, 101, 115, 116] }, Value.string { data := #[119, 97, 105, 115, 116] }, Value.string { data := #[104, 105, 112] }] 168)).cell? ⟨w.heap.size + 1, k, none⟩ = some (.string (plNms.getD k ⟨#[]⟩)) := fun o => by
    have := arr_cell (w.alloc o) _ 168 k _ (plNms_at k h1)
    rwa [World.size_alloc] at this
  have hi : ∀ (W : World) g, (Instr.indexAt 168 (.pointer (some ⟨g, 0, none⟩)) (.int .i64 (k : Int))).run Tryz.prog W = .ok (.pointer (some ⟨g, k, none⟩)) W := by
    intro W g
    rw [run_indexAt_array (h := Tryz.underlying168), if_pos ⟨by omega, by show (k : Int) < 10; omega⟩]
    show Result.ok _ _ = _
    show Result.ok (Value.pointer (some ((⟨g, 0, none⟩ : Addr).add (k * 1)))) W = _
    rw [Nat.mul_one, add_plain]
  have hn := plNms_size k
  generalize plNms.getD k ⟨#[]⟩ = nm at *
  have t0 := decide_eq_true (show nm.size ≤ 9223372036854775807 by omega)
  have u0 := eq_false (show ¬ (9223372036854775807 < nm.size) by omega)
  have t1 := decide_eq_true (show nm.size + 1 ≤ 9223372036854775807 by omega)
  have u1 := eq_false (show ¬ (9223372036854775807 < nm.size + 1) by omega)
  have t2 := decide_eq_true (show nm.size + 1 + 1 ≤ 9223372036854775807 by omega)
  have u2 := eq_false (show ¬ (9223372036854775807 < nm.size + 1 + 1) by omega)
  have h4 : a0_1 = -1 ∨ a0_1 = 0 ∨ a0_1 = 1 := by omega
  have i0 : ∀ W : World, (Instr.index 169 (.agg #[.string { data := #[60] }, .string { data := #[] }, .string { data := #[62] }]) (.int .i64 0)).run Tryz.prog W = .ok (.string { data := #[60] }) W := fun _ => by kernel_rfl
  have i1 : ∀ W : World, (Instr.index 169 (.agg #[.string { data := #[60] }, .string { data := #[] }, .string { data := #[62] }]) (.int .i64 1)).run Tryz.prog W = .ok (.string { data := #[] }) W := fun _ => by kernel_rfl
  have i2 : ∀ W : World, (Instr.index 169 (.agg #[.string { data := #[60] }, .string { data := #[] }, .string { data := #[62] }]) (.int .i64 2)).run Tryz.prog W = .ok (.string { data := #[62] }) W := fun _ => by kernel_rfl
  have r0 : IntKind.i64.wrap 0 = 0 := rfl
  have r1 : IntKind.i64.wrap 1 = 1 := rfl
  have r2 : IntKind.i64.wrap 2 = 2 := rfl
  clear h2 h3 h1 hn
  rcases h4 with rfl | rfl | rfl <;> cases b
  all_goals
    go_enter Tryz.func120, Tryz.ntmps120
    go_wp2
    go_quiet (fail)
    go_wp2
    go_ret
    exact ⟨by simp [plSide, bs_app_nil], by repeat (first | exact Below.refl _ _ | apply pw_below_drewN | apply below_drew1 | apply below_alloc)⟩
theorem impl_Place_text.calls (a0_0 : Int) (a0_1 : Int) (a0_2 : Bool) (r : ByteArray) (w : World) (h : impl_Place_text.f a0_0 a0_1 a0_2 = some r) :
    Calls Tryz.prog 120 #[.agg #[.int .i64 a0_0, .int .i64 a0_1, .bool a0_2]] w fun e w' => e = .returned (.string r) ∧ Below w.heap.size w w' := by
  unfold impl_Place_text.f at h
  split at h
  · rename_i hc
    obtain rfl := Option.some.inj h
    obtain ⟨k, rfl⟩ := Int.eq_ofNat_of_zero_le hc.1
    exact plText_walk k a0_1 a0_2 w (by omega) hc.2.2.1 hc.2.2.2
  · exact absurd h (by simp)

def impl_Place_text.e (k : Nat) : Refl.Ent G := ⟨120, [(.agg [li, li, .bool])], .one (.c .str), fun x => impl_Place_text.f x.1 x.2.1 x.2.2⟩
theorem impl_Place_text.ok (k : Nat) : Refl.EntOK Tryz.prog (impl_Place_text.e k) := Refl.entOK_hand Tryz.func120 (by kernel_rfl) (fun x => by kernel_rfl) (fun y => ⟨by kernel_rfl, by kernel_rfl, by kernel_rfl, by kernel_rfl⟩) (fun x y h w => (impl_Place_text.calls x.1 x.2.1 x.2.2 y w h).mono fun e w' hh => ⟨hh.1, hh.2⟩)

/-! ### impl_Move_text: function 121 -/

def impl_Move_text.f (a0_0 : ByteArray) (a0_1 : Int) : Option (ByteArray) := if a0_0.toList = ([] : List UInt8) then (some (⟨#[45]⟩ : ByteArray)) else (if a0_1 = 1 then (some a0_0) else (if a0_0.size + 1 ≤ 9223372036854775807 then ((strconv_Itoa.f a0_1).bind fun t490 => (if (a0_0 ++ (⟨#[42]⟩ : ByteArray)).size + t490.size ≤ 9223372036854775807 then (some ((a0_0 ++ (⟨#[42]⟩ : ByteArray)) ++ t490)) else (none))) else (none)))

def impl_Move_text.e (k : Nat) : Refl.Ent G := ⟨121, [(.agg [.str, li])], .one (.c .str), fun x => impl_Move_text.f x.1 x.2⟩
theorem impl_Move_text.ok (k : Nat) : Refl.EntOK Tryz.prog (impl_Move_text.e k) := Refl.ent_ok 1000000 k GC (fun k => [strconv_Itoa.e k]) (fun k => ⟨strconv_Itoa.ok k, trivial⟩) Tryz.func121 (by kernel_rfl) [] (ps := []) (by kernel_rfl) trivial (fun x => by kernel_rfl)

/-! ### impl_Hand_text: function 74 -/

def impl_Hand_text.f (k : Nat) (a0_0 : Int) (a0_1 : Int) (a0_2 : Int) (a0_3 : Int) (a0_4 : Int) (a0_5 : Bool) (a0_6 : Int) (a0_7 : Int) (a0_8 : Int) (a0_9 : Int) (a0_10 : Bool) (a0_11 : ByteArray) (a0_12 : Int) : Option (ByteArray) := (impl_Shape_text.f k a0_0 a0_1 a0_2 a0_3 a0_4 a0_5).bind fun t492 => ((impl_Orient_text.f a0_6 a0_7).bind fun t493 => ((impl_Place_text.f a0_8 a0_9 a0_10).bind fun t494 => ((impl_Move_text.f a0_11 a0_12).bind fun t495 => ((strings_Join.f (([t492, t493, t494, t495] : List ByteArray)) (⟨#[47]⟩ : ByteArray)).bind fun t499 => (some t499)))))

theorem impl_Hand_text.mono : ∀ a0 a1 a2 a3 a4 a5 a6 a7 a8 a9 a10 a11 a12 k, LeO (impl_Hand_text.f k a0 a1 a2 a3 a4 a5 a6 a7 a8 a9 a10 a11 a12) (impl_Hand_text.f (k + 1) a0 a1 a2 a3 a4 a5 a6 a7 a8 a9 a10 a11 a12) := by
  intro a0 a1 a2 a3 a4 a5 a6 a7 a8 a9 a10 a11 a12 k
  unfold impl_Hand_text.f
  repeat' first
      | (with_reducible exact impl_Shape_text.mono _ _ _ _ _ _ _)
      | (with_reducible exact LeO.refl _)
      | (with_reducible exact LeO.none _)
      | (with_reducible refine LeO.ite ?_ ?_)
      | (with_reducible refine LeO.bind ?_ (fun _ => ?_))
      | exact impl_Shape_text.mono _ _ _ _ _ _ _
      | exact LeO.none _
      | refine LeO.ite ?_ ?_
      | refine LeO.bind ?_ (fun _ => ?_)

def impl_Hand_text.e (k : Nat) : Refl.Ent G := ⟨74, [(.agg gL0)], .one (.c .str), fun x => impl_Hand_text.f k x.1 x.2.1 x.2.2.1 x.2.2.2.1 x.2.2.2.2.1 x.2.2.2.2.2.1 x.2.2.2.2.2.2.1 x.2.2.2.2.2.2.2.1 x.2.2.2.2.2.2.2.2.1 x.2.2.2.2.2.2.2.2.2.1 x.2.2.2.2.2.2.2.2.2.2.1 x.2.2.2.2.2.2.2.2.2.2.2.1 x.2.2.2.2.2.2.2.2.2.2.2.2⟩
theorem impl_Hand_text.ok (k : Nat) : Refl.EntOK Tryz.prog (impl_Hand_text.e k) := Refl.ent_ok 1000000 k GC (fun k => [impl_Shape_text.e k, impl_Orient_text.e k, impl_Place_text.e k, impl_Move_text.e k, strings_Join.e k]) (fun k => ⟨impl_Shape_text.ok k, impl_Orient_text.ok k, impl_Place_text.ok k, impl_Move_text.ok k, strings_Join.ok k, trivial⟩) Tryz.func74 (by kernel_rfl) [] (ps := []) (by kernel_rfl) trivial (fun x => by kernel_rfl)

end Go.Proofs.YtojfncpjgpklhaaGreatDoor.PA
