-- Written by a program of this session (wip/tools/myprint.py). Not trusted: Lean checks it.
import Derived.Test.YtaaldnaefdodkaaGreatDoorCtx
import Derived.Test.YtaaldnaefdodkaaGreatDoorPAx3
import Derived.Test.YtaaldnaefdodkaaGreatDoorPAx4
namespace Go.Proofs.YtaaldnaefdodkaaGreatDoor.PA
open Go.RowKit Go.Proofs.YtaaldnaefdodkaaGreatDoorW.PrintWords Go.Proofs.YtaaldnaefdodkaaGreatDoorW.PrintLast Go.Proofs.YtaaldnaefdodkaaGreatDoorW.PrintMore
attribute [local go_sem] max2_int min2_int max_two min_two max_three min_three max_four min_four   -- for this text's walks alone
set_option linter.unusedVariables false
set_option linter.unusedSimpArgs false

attribute [local go_sem high] eqA67
/-! ### spec_siGood: function 102 -/

def spec_siGood.f (k : Nat) (a0_0 : Int) (a0_1 : Int) (a0_2 : Int) (a0_3 : Int) (a0_4 : Int) (a0_5 : Bool) (a0_6 : Int) (a0_7 : Int) (a0_8 : Int) (a0_9 : Int) (a0_10 : Bool) (a0_11 : ByteArray) (a0_12 : Int) (a0_13 : Bool) (a0_14 : Int) (a0_15 : Int) (a0_16 : Int) (a0_17 : Int) (a0_18 : Int) (a0_19 : Bool) (a0_20 : Int) (a0_21 : Int) (a0_22 : Int) (a0_23 : Int) (a0_24 : Bool) (a0_25 : ByteArray) (a0_26 : Int) : Option (Bool) := (spec_siHand.f k a0_0 a0_1 a0_2 a0_3 a0_4 a0_5 a0_6 a0_7 a0_8 a0_9 a0_10 a0_11 a0_12).bind fun t203 => (if t203 = true then (if a0_13 = true then ((spec_siHand.f k a0_14 a0_15 a0_16 a0_17 a0_18 a0_19 a0_20 a0_21 a0_22 a0_23 a0_24 a0_25 a0_26).bind fun t204 => (if t204 = true then ((spec_siBroken.f k a0_0 a0_1 a0_2 a0_3 a0_4 a0_5 a0_6 a0_7 a0_8 a0_9 a0_10 a0_11 a0_12 a0_14 a0_15 a0_16 a0_17 a0_18 a0_19 a0_20 a0_21 a0_22 a0_23 a0_24 a0_25 a0_26).bind fun t205 => (some (t205 == 0))) else (some false))) else (some ((a0_14 == 0 && (a0_15 == 0 && (a0_16 == 0 && (a0_17 == 0 && (a0_18 == 0 && (a0_19 == false)))))) && ((a0_20 == 0 && (a0_21 == 0)) && ((a0_22 == 0 && (a0_23 == 0 && (a0_24 == false))) && ((a0_25.toList == ((⟨#[]⟩ : ByteArray).toList) && (a0_26 == 0)))))))) else (some false))

theorem spec_siGood.mono : ∀ a0 a1 a2 a3 a4 a5 a6 a7 a8 a9 a10 a11 a12 a13 a14 a15 a16 a17 a18 a19 a20 a21 a22 a23 a24 a25 a26 k, LeO (spec_siGood.f k a0 a1 a2 a3 a4 a5 a6 a7 a8 a9 a10 a11 a12 a13 a14 a15 a16 a17 a18 a19 a20 a21 a22 a23 a24 a25 a26) (spec_siGood.f (k + 1) a0 a1 a2 a3 a4 a5 a6 a7 a8 a9 a10 a11 a12 a13 a14 a15 a16 a17 a18 a19 a20 a21 a22 a23 a24 a25 a26) := by
  intro a0 a1 a2 a3 a4 a5 a6 a7 a8 a9 a10 a11 a12 a13 a14 a15 a16 a17 a18 a19 a20 a21 a22 a23 a24 a25 a26 k
  unfold spec_siGood.f
  repeat' first
      | (with_reducible exact spec_siBroken.mono _ _ _ _ _ _ _ _ _ _ _ _ _ _ _ _ _ _ _ _ _ _ _ _ _ _ _)
      | (with_reducible exact spec_siHand.mono _ _ _ _ _ _ _ _ _ _ _ _ _ _)
      | (with_reducible exact LeO.refl _)
      | (with_reducible exact LeO.none _)
      | (with_reducible refine LeO.ite ?_ ?_)
      | (with_reducible refine LeO.bind ?_ (fun _ => ?_))
      | exact spec_siBroken.mono _ _ _ _ _ _ _ _ _ _ _ _ _ _ _ _ _ _ _ _ _ _ _ _ _ _ _
      | exact spec_siHand.mono _ _ _ _ _ _ _ _ _ _ _ _ _ _
      | exact LeO.none _
      | refine LeO.ite ?_ ?_
      | refine LeO.bind ?_ (fun _ => ?_)

def spec_siGood.e (k : Nat) : Refl.Ent G := ⟨102, [(.agg gL1)], .one (.c .bool), fun x => spec_siGood.f k x.1 x.2.1 x.2.2.1 x.2.2.2.1 x.2.2.2.2.1 x.2.2.2.2.2.1 x.2.2.2.2.2.2.1 x.2.2.2.2.2.2.2.1 x.2.2.2.2.2.2.2.2.1 x.2.2.2.2.2.2.2.2.2.1 x.2.2.2.2.2.2.2.2.2.2.1 x.2.2.2.2.2.2.2.2.2.2.2.1 x.2.2.2.2.2.2.2.2.2.2.2.2.1 x.2.2.2.2.2.2.2.2.2.2.2.2.2.1 x.2.2.2.2.2.2.2.2.2.2.2.2.2.2.1 x.2.2.2.2.2.2.2.2.2.2.2.2.2.2.2.1 x.2.2.2.2.2.2.2.2.2.2.2.2.2.2.2.2.1 x.2.2.2.2.2.2.2.2.2.2.2.2.2.2.2.2.2.1 x.2.2.2.2.2.2.2.2.2.2.2.2.2.2.2.2.2.2.1 x.2.2.2.2.2.2.2.2.2.2.2.2.2.2.2.2.2.2.2.1 x.2.2.2.2.2.2.2.2.2.2.2.2.2.2.2.2.2.2.2.2.1 x.2.2.2.2.2.2.2.2.2.2.2.2.2.2.2.2.2.2.2.2.2.1 x.2.2.2.2.2.2.2.2.2.2.2.2.2.2.2.2.2.2.2.2.2.2.1 x.2.2.2.2.2.2.2.2.2.2.2.2.2.2.2.2.2.2.2.2.2.2.2.1 x.2.2.2.2.2.2.2.2.2.2.2.2.2.2.2.2.2.2.2.2.2.2.2.2.1 x.2.2.2.2.2.2.2.2.2.2.2.2.2.2.2.2.2.2.2.2.2.2.2.2.2.1 x.2.2.2.2.2.2.2.2.2.2.2.2.2.2.2.2.2.2.2.2.2.2.2.2.2.2⟩
theorem spec_siGood.ok (k : Nat) : Refl.EntOK Tryz.prog (spec_siGood.e k) := Refl.ent_ok 1000000 k GC (fun k => [spec_siHand.e k, spec_siBroken.e k]) (fun k => ⟨spec_siHand.ok k, spec_siBroken.ok k, trivial⟩) Tryz.func102 (by kernel_rfl) [] (ps := []) (by kernel_rfl) trivial (fun x => by kernel_rfl)

/-! ### spec_enRegion: function 103 -/

def spec_enRegion.f (a0 : Int) : Option (Bool) := (spec_l1In.f a0 0 5).bind fun t206 => (some t206)

def spec_enRegion.e (k : Nat) : Refl.Ent G := ⟨103, [(.c li)], .one (.c .bool), fun x => spec_enRegion.f x⟩
theorem spec_enRegion.ok (k : Nat) : Refl.EntOK Tryz.prog (spec_enRegion.e k) := Refl.ent_ok 1000000 k GC (fun k => [spec_l1In.e k]) (fun k => ⟨spec_l1In.ok k, trivial⟩) Tryz.func103 (by kernel_rfl) [] (ps := []) (by kernel_rfl) trivial (fun x => by kernel_rfl)

/-! ### spec_enOne: function 61 -/

def spec_enOne.f (k : Nat) (a0_0 : ByteArray) (a0_1 : Int) (a0_2 : Int) (a0_3 : Int) (a0_4 : Int) (a0_5 : Int) (a0_6 : Bool) (a0_7 : Int) (a0_8 : Int) (a0_9 : Int) (a0_10 : Int) (a0_11 : Bool) (a0_12 : ByteArray) (a0_13 : Int) (a0_14 : Bool) (a0_15 : Int) (a0_16 : Int) (a0_17 : Int) (a0_18 : Int) (a0_19 : Int) (a0_20 : Bool) (a0_21 : Int) (a0_22 : Int) (a0_23 : Int) (a0_24 : Int) (a0_25 : Bool) (a0_26 : ByteArray) (a0_27 : Int) (a0_28 : Int) (a0_29 : Int) : Option (Bool) := (spec_enGloss.f k a0_0).bind fun t208 => (if t208 = true then ((spec_siGood.f k a0_1 a0_2 a0_3 a0_4 a0_5 a0_6 a0_7 a0_8 a0_9 a0_10 a0_11 a0_12 a0_13 a0_14 a0_15 a0_16 a0_17 a0_18 a0_19 a0_20 a0_21 a0_22 a0_23 a0_24 a0_25 a0_26 a0_27).bind fun t209 => (if t209 = true then ((spec_enRegion.f a0_28).bind fun t210 => (if t210 = true then ((spec_l1In.f a0_29 0 99999).bind fun t211 => (some t211)) else (some false))) else (some false))) else (some false))

theorem spec_enOne.mono : ∀ a0 a1 a2 a3 a4 a5 a6 a7 a8 a9 a10 a11 a12 a13 a14 a15 a16 a17 a18 a19 a20 a21 a22 a23 a24 a25 a26 a27 a28 a29 k, LeO (spec_enOne.f k a0 a1 a2 a3 a4 a5 a6 a7 a8 a9 a10 a11 a12 a13 a14 a15 a16 a17 a18 a19 a20 a21 a22 a23 a24 a25 a26 a27 a28 a29) (spec_enOne.f (k + 1) a0 a1 a2 a3 a4 a5 a6 a7 a8 a9 a10 a11 a12 a13 a14 a15 a16 a17 a18 a19 a20 a21 a22 a23 a24 a25 a26 a27 a28 a29) := by
  intro a0 a1 a2 a3 a4 a5 a6 a7 a8 a9 a10 a11 a12 a13 a14 a15 a16 a17 a18 a19 a20 a21 a22 a23 a24 a25 a26 a27 a28 a29 k
  unfold spec_enOne.f
  repeat' first
      | (with_reducible exact spec_enGloss.mono _ _)
      | (with_reducible exact spec_siGood.mono _ _ _ _ _ _ _ _ _ _ _ _ _ _ _ _ _ _ _ _ _ _ _ _ _ _ _ _)
      | (with_reducible exact LeO.refl _)
      | (with_reducible exact LeO.none _)
      | (with_reducible refine LeO.ite ?_ ?_)
      | (with_reducible refine LeO.bind ?_ (fun _ => ?_))
      | exact spec_enGloss.mono _ _
      | exact spec_siGood.mono _ _ _ _ _ _ _ _ _ _ _ _ _ _ _ _ _ _ _ _ _ _ _ _ _ _ _ _
      | exact LeO.none _
      | refine LeO.ite ?_ ?_
      | refine LeO.bind ?_ (fun _ => ?_)

def spec_enOne.e (k : Nat) : Refl.Ent G := ⟨61, [(.agg gL2)], .one (.c .bool), fun x => spec_enOne.f k x.1 x.2.1 x.2.2.1 x.2.2.2.1 x.2.2.2.2.1 x.2.2.2.2.2.1 x.2.2.2.2.2.2.1 x.2.2.2.2.2.2.2.1 x.2.2.2.2.2.2.2.2.1 x.2.2.2.2.2.2.2.2.2.1 x.2.2.2.2.2.2.2.2.2.2.1 x.2.2.2.2.2.2.2.2.2.2.2.1 x.2.2.2.2.2.2.2.2.2.2.2.2.1 x.2.2.2.2.2.2.2.2.2.2.2.2.2.1 x.2.2.2.2.2.2.2.2.2.2.2.2.2.2.1 x.2.2.2.2.2.2.2.2.2.2.2.2.2.2.2.1 x.2.2.2.2.2.2.2.2.2.2.2.2.2.2.2.2.1 x.2.2.2.2.2.2.2.2.2.2.2.2.2.2.2.2.2.1 x.2.2.2.2.2.2.2.2.2.2.2.2.2.2.2.2.2.2.1 x.2.2.2.2.2.2.2.2.2.2.2.2.2.2.2.2.2.2.2.1 x.2.2.2.2.2.2.2.2.2.2.2.2.2.2.2.2.2.2.2.2.1 x.2.2.2.2.2.2.2.2.2.2.2.2.2.2.2.2.2.2.2.2.2.1 x.2.2.2.2.2.2.2.2.2.2.2.2.2.2.2.2.2.2.2.2.2.2.1 x.2.2.2.2.2.2.2.2.2.2.2.2.2.2.2.2.2.2.2.2.2.2.2.1 x.2.2.2.2.2.2.2.2.2.2.2.2.2.2.2.2.2.2.2.2.2.2.2.2.1 x.2.2.2.2.2.2.2.2.2.2.2.2.2.2.2.2.2.2.2.2.2.2.2.2.2.1 x.2.2.2.2.2.2.2.2.2.2.2.2.2.2.2.2.2.2.2.2.2.2.2.2.2.2.1 x.2.2.2.2.2.2.2.2.2.2.2.2.2.2.2.2.2.2.2.2.2.2.2.2.2.2.2.1 x.2.2.2.2.2.2.2.2.2.2.2.2.2.2.2.2.2.2.2.2.2.2.2.2.2.2.2.2.1 x.2.2.2.2.2.2.2.2.2.2.2.2.2.2.2.2.2.2.2.2.2.2.2.2.2.2.2.2.2⟩
theorem spec_enOne.ok (k : Nat) : Refl.EntOK Tryz.prog (spec_enOne.e k) := Refl.ent_ok 1000000 k GC (fun k => [spec_enGloss.e k, spec_siGood.e k, spec_enRegion.e k, spec_l1In.e k]) (fun k => ⟨spec_enGloss.ok k, spec_siGood.ok k, spec_enRegion.ok k, spec_l1In.ok k, trivial⟩) Tryz.func61 (by kernel_rfl) [] (ps := []) (by kernel_rfl) trivial (fun x => by kernel_rfl)

/-! ### spec_enBefore: function 62 -/

def spec_enBefore.f (a0_0 : ByteArray) (a0_1 : Int) (a0_2 : Int) (a0_3 : Int) (a0_4 : Int) (a0_5 : Int) (a0_6 : Bool) (a0_7 : Int) (a0_8 : Int) (a0_9 : Int) (a0_10 : Int) (a0_11 : Bool) (a0_12 : ByteArray) (a0_13 : Int) (a0_14 : Bool) (a0_15 : Int) (a0_16 : Int) (a0_17 : Int) (a0_18 : Int) (a0_19 : Int) (a0_20 : Bool) (a0_21 : Int) (a0_22 : Int) (a0_23 : Int) (a0_24 : Int) (a0_25 : Bool) (a0_26 : ByteArray) (a0_27 : Int) (a0_28 : Int) (a0_29 : Int) (a1_0 : ByteArray) (a1_1 : Int) (a1_2 : Int) (a1_3 : Int) (a1_4 : Int) (a1_5 : Int) (a1_6 : Bool) (a1_7 : Int) (a1_8 : Int) (a1_9 : Int) (a1_10 : Int) (a1_11 : Bool) (a1_12 : ByteArray) (a1_13 : Int) (a1_14 : Bool) (a1_15 : Int) (a1_16 : Int) (a1_17 : Int) (a1_18 : Int) (a1_19 : Int) (a1_20 : Bool) (a1_21 : Int) (a1_22 : Int) (a1_23 : Int) (a1_24 : Int) (a1_25 : Bool) (a1_26 : ByteArray) (a1_27 : Int) (a1_28 : Int) (a1_29 : Int) : Option (Bool) := if (Op.bytesLess a0_0.toList a1_0.toList) = true then (some true) else (if a0_0.toList = a1_0.toList then (some (decide (a0_28 < a1_28))) else (some false))

def spec_enBefore.e (k : Nat) : Refl.Ent G := ⟨62, [(.agg gL2), (.agg gL2)], .one (.c .bool), fun x => spec_enBefore.f x.1 x.2.1 x.2.2.1 x.2.2.2.1 x.2.2.2.2.1 x.2.2.2.2.2.1 x.2.2.2.2.2.2.1 x.2.2.2.2.2.2.2.1 x.2.2.2.2.2.2.2.2.1 x.2.2.2.2.2.2.2.2.2.1 x.2.2.2.2.2.2.2.2.2.2.1 x.2.2.2.2.2.2.2.2.2.2.2.1 x.2.2.2.2.2.2.2.2.2.2.2.2.1 x.2.2.2.2.2.2.2.2.2.2.2.2.2.1 x.2.2.2.2.2.2.2.2.2.2.2.2.2.2.1 x.2.2.2.2.2.2.2.2.2.2.2.2.2.2.2.1 x.2.2.2.2.2.2.2.2.2.2.2.2.2.2.2.2.1 x.2.2.2.2.2.2.2.2.2.2.2.2.2.2.2.2.2.1 x.2.2.2.2.2.2.2.2.2.2.2.2.2.2.2.2.2.2.1 x.2.2.2.2.2.2.2.2.2.2.2.2.2.2.2.2.2.2.2.1 x.2.2.2.2.2.2.2.2.2.2.2.2.2.2.2.2.2.2.2.2.1 x.2.2.2.2.2.2.2.2.2.2.2.2.2.2.2.2.2.2.2.2.2.1 x.2.2.2.2.2.2.2.2.2.2.2.2.2.2.2.2.2.2.2.2.2.2.1 x.2.2.2.2.2.2.2.2.2.2.2.2.2.2.2.2.2.2.2.2.2.2.2.1 x.2.2.2.2.2.2.2.2.2.2.2.2.2.2.2.2.2.2.2.2.2.2.2.2.1 x.2.2.2.2.2.2.2.2.2.2.2.2.2.2.2.2.2.2.2.2.2.2.2.2.2.1 x.2.2.2.2.2.2.2.2.2.2.2.2.2.2.2.2.2.2.2.2.2.2.2.2.2.2.1 x.2.2.2.2.2.2.2.2.2.2.2.2.2.2.2.2.2.2.2.2.2.2.2.2.2.2.2.1 x.2.2.2.2.2.2.2.2.2.2.2.2.2.2.2.2.2.2.2.2.2.2.2.2.2.2.2.2.1 x.2.2.2.2.2.2.2.2.2.2.2.2.2.2.2.2.2.2.2.2.2.2.2.2.2.2.2.2.2.1 x.2.2.2.2.2.2.2.2.2.2.2.2.2.2.2.2.2.2.2.2.2.2.2.2.2.2.2.2.2.2.1 x.2.2.2.2.2.2.2.2.2.2.2.2.2.2.2.2.2.2.2.2.2.2.2.2.2.2.2.2.2.2.2.1 x.2.2.2.2.2.2.2.2.2.2.2.2.2.2.2.2.2.2.2.2.2.2.2.2.2.2.2.2.2.2.2.2.1 x.2.2.2.2.2.2.2.2.2.2.2.2.2.2.2.2.2.2.2.2.2.2.2.2.2.2.2.2.2.2.2.2.2.1 x.2.2.2.2.2.2.2.2.2.2.2.2.2.2.2.2.2.2.2.2.2.2.2.2.2.2.2.2.2.2.2.2.2.2.1 x.2.2.2.2.2.2.2.2.2.2.2.2.2.2.2.2.2.2.2.2.2.2.2.2.2.2.2.2.2.2.2.2.2.2.2.1 x.2.2.2.2.2.2.2.2.2.2.2.2.2.2.2.2.2.2.2.2.2.2.2.2.2.2.2.2.2.2.2.2.2.2.2.2.1 x.2.2.2.2.2.2.2.2.2.2.2.2.2.2.2.2.2.2.2.2.2.2.2.2.2.2.2.2.2.2.2.2.2.2.2.2.2.1 x.2.2.2.2.2.2.2.2.2.2.2.2.2.2.2.2.2.2.2.2.2.2.2.2.2.2.2.2.2.2.2.2.2.2.2.2.2.2.1 x.2.2.2.2.2.2.2.2.2.2.2.2.2.2.2.2.2.2.2.2.2.2.2.2.2.2.2.2.2.2.2.2.2.2.2.2.2.2.2.1 x.2.2.2.2.2.2.2.2.2.2.2.2.2.2.2.2.2.2.2.2.2.2.2.2.2.2.2.2.2.2.2.2.2.2.2.2.2.2.2.2.1 x.2.2.2.2.2.2.2.2.2.2.2.2.2.2.2.2.2.2.2.2.2.2.2.2.2.2.2.2.2.2.2.2.2.2.2.2.2.2.2.2.2.1 x.2.2.2.2.2.2.2.2.2.2.2.2.2.2.2.2.2.2.2.2.2.2.2.2.2.2.2.2.2.2.2.2.2.2.2.2.2.2.2.2.2.2.1 x.2.2.2.2.2.2.2.2.2.2.2.2.2.2.2.2.2.2.2.2.2.2.2.2.2.2.2.2.2.2.2.2.2.2.2.2.2.2.2.2.2.2.2.1 x.2.2.2.2.2.2.2.2.2.2.2.2.2.2.2.2.2.2.2.2.2.2.2.2.2.2.2.2.2.2.2.2.2.2.2.2.2.2.2.2.2.2.2.2.1 x.2.2.2.2.2.2.2.2.2.2.2.2.2.2.2.2.2.2.2.2.2.2.2.2.2.2.2.2.2.2.2.2.2.2.2.2.2.2.2.2.2.2.2.2.2.1 x.2.2.2.2.2.2.2.2.2.2.2.2.2.2.2.2.2.2.2.2.2.2.2.2.2.2.2.2.2.2.2.2.2.2.2.2.2.2.2.2.2.2.2.2.2.2.1 x.2.2.2.2.2.2.2.2.2.2.2.2.2.2.2.2.2.2.2.2.2.2.2.2.2.2.2.2.2.2.2.2.2.2.2.2.2.2.2.2.2.2.2.2.2.2.2.1 x.2.2.2.2.2.2.2.2.2.2.2.2.2.2.2.2.2.2.2.2.2.2.2.2.2.2.2.2.2.2.2.2.2.2.2.2.2.2.2.2.2.2.2.2.2.2.2.2.1 x.2.2.2.2.2.2.2.2.2.2.2.2.2.2.2.2.2.2.2.2.2.2.2.2.2.2.2.2.2.2.2.2.2.2.2.2.2.2.2.2.2.2.2.2.2.2.2.2.2.1 x.2.2.2.2.2.2.2.2.2.2.2.2.2.2.2.2.2.2.2.2.2.2.2.2.2.2.2.2.2.2.2.2.2.2.2.2.2.2.2.2.2.2.2.2.2.2.2.2.2.2.1 x.2.2.2.2.2.2.2.2.2.2.2.2.2.2.2.2.2.2.2.2.2.2.2.2.2.2.2.2.2.2.2.2.2.2.2.2.2.2.2.2.2.2.2.2.2.2.2.2.2.2.2.1 x.2.2.2.2.2.2.2.2.2.2.2.2.2.2.2.2.2.2.2.2.2.2.2.2.2.2.2.2.2.2.2.2.2.2.2.2.2.2.2.2.2.2.2.2.2.2.2.2.2.2.2.2.1 x.2.2.2.2.2.2.2.2.2.2.2.2.2.2.2.2.2.2.2.2.2.2.2.2.2.2.2.2.2.2.2.2.2.2.2.2.2.2.2.2.2.2.2.2.2.2.2.2.2.2.2.2.2.1 x.2.2.2.2.2.2.2.2.2.2.2.2.2.2.2.2.2.2.2.2.2.2.2.2.2.2.2.2.2.2.2.2.2.2.2.2.2.2.2.2.2.2.2.2.2.2.2.2.2.2.2.2.2.2.1 x.2.2.2.2.2.2.2.2.2.2.2.2.2.2.2.2.2.2.2.2.2.2.2.2.2.2.2.2.2.2.2.2.2.2.2.2.2.2.2.2.2.2.2.2.2.2.2.2.2.2.2.2.2.2.2.1 x.2.2.2.2.2.2.2.2.2.2.2.2.2.2.2.2.2.2.2.2.2.2.2.2.2.2.2.2.2.2.2.2.2.2.2.2.2.2.2.2.2.2.2.2.2.2.2.2.2.2.2.2.2.2.2.2.1 x.2.2.2.2.2.2.2.2.2.2.2.2.2.2.2.2.2.2.2.2.2.2.2.2.2.2.2.2.2.2.2.2.2.2.2.2.2.2.2.2.2.2.2.2.2.2.2.2.2.2.2.2.2.2.2.2.2.1 x.2.2.2.2.2.2.2.2.2.2.2.2.2.2.2.2.2.2.2.2.2.2.2.2.2.2.2.2.2.2.2.2.2.2.2.2.2.2.2.2.2.2.2.2.2.2.2.2.2.2.2.2.2.2.2.2.2.2.1 x.2.2.2.2.2.2.2.2.2.2.2.2.2.2.2.2.2.2.2.2.2.2.2.2.2.2.2.2.2.2.2.2.2.2.2.2.2.2.2.2.2.2.2.2.2.2.2.2.2.2.2.2.2.2.2.2.2.2.2⟩
theorem spec_enBefore.ok (k : Nat) : Refl.EntOK Tryz.prog (spec_enBefore.e k) := Refl.ent_ok 1000000 k GC (fun k => []) (fun k => trivial) Tryz.func62 (by kernel_rfl) [] (ps := []) (by kernel_rfl) trivial (fun x => by kernel_rfl)

/-! ### spec_enGood: function 31 -/

def spec_enGood.l0 : Nat → List (S71) → List (S71) → Int → Int → Option (Bool)
  | 0, _, _, _, _ => none
  | k + 1, x0, x5, x6, x7 => if x7 < x6 then (if 0 ≤ x7 then (if x7 < (x5.length : Int) then ((spec_enOne.f k ((rd_T71 x5 x7).f0) ((rd_T71 x5 x7).f1.f0.f0.f0) ((rd_T71 x5 x7).f1.f0.f0.f1) ((rd_T71 x5 x7).f1.f0.f0.f2) ((rd_T71 x5 x7).f1.f0.f0.f3) ((rd_T71 x5 x7).f1.f0.f0.f4) ((rd_T71 x5 x7).f1.f0.f0.f5) ((rd_T71 x5 x7).f1.f0.f1.f0) ((rd_T71 x5 x7).f1.f0.f1.f1) ((rd_T71 x5 x7).f1.f0.f2.f0) ((rd_T71 x5 x7).f1.f0.f2.f1) ((rd_T71 x5 x7).f1.f0.f2.f2) ((rd_T71 x5 x7).f1.f0.f3.f0) ((rd_T71 x5 x7).f1.f0.f3.f1) ((rd_T71 x5 x7).f1.f1) ((rd_T71 x5 x7).f1.f2.f0.f0) ((rd_T71 x5 x7).f1.f2.f0.f1) ((rd_T71 x5 x7).f1.f2.f0.f2) ((rd_T71 x5 x7).f1.f2.f0.f3) ((rd_T71 x5 x7).f1.f2.f0.f4) ((rd_T71 x5 x7).f1.f2.f0.f5) ((rd_T71 x5 x7).f1.f2.f1.f0) ((rd_T71 x5 x7).f1.f2.f1.f1) ((rd_T71 x5 x7).f1.f2.f2.f0) ((rd_T71 x5 x7).f1.f2.f2.f1) ((rd_T71 x5 x7).f1.f2.f2.f2) ((rd_T71 x5 x7).f1.f2.f3.f0) ((rd_T71 x5 x7).f1.f2.f3.f1) ((rd_T71 x5 x7).f2) ((rd_T71 x5 x7).f3)).bind fun t216 => (if t216 = true then (if x7 > 0 then (if 0 ≤ (wrap64 (x7 - 1)) then (if (wrap64 (x7 - 1)) < (x0.length : Int) then ((spec_enBefore.f ((rd_T71 x0 (wrap64 (x7 - 1))).f0) ((rd_T71 x0 (wrap64 (x7 - 1))).f1.f0.f0.f0) ((rd_T71 x0 (wrap64 (x7 - 1))).f1.f0.f0.f1) ((rd_T71 x0 (wrap64 (x7 - 1))).f1.f0.f0.f2) ((rd_T71 x0 (wrap64 (x7 - 1))).f1.f0.f0.f3) ((rd_T71 x0 (wrap64 (x7 - 1))).f1.f0.f0.f4) ((rd_T71 x0 (wrap64 (x7 - 1))).f1.f0.f0.f5) ((rd_T71 x0 (wrap64 (x7 - 1))).f1.f0.f1.f0) ((rd_T71 x0 (wrap64 (x7 - 1))).f1.f0.f1.f1) ((rd_T71 x0 (wrap64 (x7 - 1))).f1.f0.f2.f0) ((rd_T71 x0 (wrap64 (x7 - 1))).f1.f0.f2.f1) ((rd_T71 x0 (wrap64 (x7 - 1))).f1.f0.f2.f2) ((rd_T71 x0 (wrap64 (x7 - 1))).f1.f0.f3.f0) ((rd_T71 x0 (wrap64 (x7 - 1))).f1.f0.f3.f1) ((rd_T71 x0 (wrap64 (x7 - 1))).f1.f1) ((rd_T71 x0 (wrap64 (x7 - 1))).f1.f2.f0.f0) ((rd_T71 x0 (wrap64 (x7 - 1))).f1.f2.f0.f1) ((rd_T71 x0 (wrap64 (x7 - 1))).f1.f2.f0.f2) ((rd_T71 x0 (wrap64 (x7 - 1))).f1.f2.f0.f3) ((rd_T71 x0 (wrap64 (x7 - 1))).f1.f2.f0.f4) ((rd_T71 x0 (wrap64 (x7 - 1))).f1.f2.f0.f5) ((rd_T71 x0 (wrap64 (x7 - 1))).f1.f2.f1.f0) ((rd_T71 x0 (wrap64 (x7 - 1))).f1.f2.f1.f1) ((rd_T71 x0 (wrap64 (x7 - 1))).f1.f2.f2.f0) ((rd_T71 x0 (wrap64 (x7 - 1))).f1.f2.f2.f1) ((rd_T71 x0 (wrap64 (x7 - 1))).f1.f2.f2.f2) ((rd_T71 x0 (wrap64 (x7 - 1))).f1.f2.f3.f0) ((rd_T71 x0 (wrap64 (x7 - 1))).f1.f2.f3.f1) ((rd_T71 x0 (wrap64 (x7 - 1))).f2) ((rd_T71 x0 (wrap64 (x7 - 1))).f3) ((rd_T71 x5 x7).f0) ((rd_T71 x5 x7).f1.f0.f0.f0) ((rd_T71 x5 x7).f1.f0.f0.f1) ((rd_T71 x5 x7).f1.f0.f0.f2) ((rd_T71 x5 x7).f1.f0.f0.f3) ((rd_T71 x5 x7).f1.f0.f0.f4) ((rd_T71 x5 x7).f1.f0.f0.f5) ((rd_T71 x5 x7).f1.f0.f1.f0) ((rd_T71 x5 x7).f1.f0.f1.f1) ((rd_T71 x5 x7).f1.f0.f2.f0) ((rd_T71 x5 x7).f1.f0.f2.f1) ((rd_T71 x5 x7).f1.f0.f2.f2) ((rd_T71 x5 x7).f1.f0.f3.f0) ((rd_T71 x5 x7).f1.f0.f3.f1) ((rd_T71 x5 x7).f1.f1) ((rd_T71 x5 x7).f1.f2.f0.f0) ((rd_T71 x5 x7).f1.f2.f0.f1) ((rd_T71 x5 x7).f1.f2.f0.f2) ((rd_T71 x5 x7).f1.f2.f0.f3) ((rd_T71 x5 x7).f1.f2.f0.f4) ((rd_T71 x5 x7).f1.f2.f0.f5) ((rd_T71 x5 x7).f1.f2.f1.f0) ((rd_T71 x5 x7).f1.f2.f1.f1) ((rd_T71 x5 x7).f1.f2.f2.f0) ((rd_T71 x5 x7).f1.f2.f2.f1) ((rd_T71 x5 x7).f1.f2.f2.f2) ((rd_T71 x5 x7).f1.f2.f3.f0) ((rd_T71 x5 x7).f1.f2.f3.f1) ((rd_T71 x5 x7).f2) ((rd_T71 x5 x7).f3)).bind fun t218 => (if t218 = true then (spec_enGood.l0 k x0 x5 x6 (wrap64 (x7 + 1))) else (some false))) else (none)) else (none)) else (spec_enGood.l0 k x0 x5 x6 (wrap64 (x7 + 1)))) else (some false))) else (none)) else (none)) else (some (decide ((x0.length : Int) ≤ 16)))

def spec_enGood.f (k : Nat) (l0 : List (S71)) : Option (Bool) := spec_enGood.l0 k l0 l0 (l0.length : Int) 0

theorem spec_enGood.mono_l : ∀ k, (∀ y0 y1 y2 y3, LeO (spec_enGood.l0 k y0 y1 y2 y3) (spec_enGood.l0 (k + 1) y0 y1 y2 y3))
  | 0 => fun _ _ _ _ r h => by simp [spec_enGood.l0] at h
  | k + 1 => by
    have ih0 := spec_enGood.mono_l k
    · intro y0 y1 y2 y3
      unfold spec_enGood.l0
      repeat' first
      | (with_reducible exact ih0 _ _ _ _)
      | (with_reducible exact spec_enOne.mono _ _ _ _ _ _ _ _ _ _ _ _ _ _ _ _ _ _ _ _ _ _ _ _ _ _ _ _ _ _ _)
      | (with_reducible exact LeO.refl _)
      | (with_reducible exact LeO.none _)
      | (with_reducible refine LeO.ite ?_ ?_)
      | (with_reducible refine LeO.bind ?_ (fun _ => ?_))
      | exact ih0 _ _ _ _
      | exact spec_enOne.mono _ _ _ _ _ _ _ _ _ _ _ _ _ _ _ _ _ _ _ _ _ _ _ _ _ _ _ _ _ _ _
      | exact LeO.none _
      | refine LeO.ite ?_ ?_
      | refine LeO.bind ?_ (fun _ => ?_)

theorem spec_enGood.mono : ∀ a0 k, LeO (spec_enGood.f k a0) (spec_enGood.f (k + 1) a0) := by
  intro a0 k
  have ih0 := spec_enGood.mono_l k
  unfold spec_enGood.f
  repeat' first
      | (with_reducible exact ih0 _ _ _ _)
      | (with_reducible exact spec_enOne.mono _ _ _ _ _ _ _ _ _ _ _ _ _ _ _ _ _ _ _ _ _ _ _ _ _ _ _ _ _ _ _)
      | (with_reducible exact LeO.refl _)
      | (with_reducible exact LeO.none _)
      | (with_reducible refine LeO.ite ?_ ?_)
      | (with_reducible refine LeO.bind ?_ (fun _ => ?_))
      | exact ih0 _ _ _ _
      | exact spec_enOne.mono _ _ _ _ _ _ _ _ _ _ _ _ _ _ _ _ _ _ _ _ _ _ _ _ _ _ _ _ _ _ _
      | exact LeO.none _
      | refine LeO.ite ?_ ?_
      | refine LeO.bind ?_ (fun _ => ?_)

def spec_enGood.e (k : Nat) : Refl.Ent G := ⟨31, [(.c (.row 71 false))], .one (.c .bool), fun x => spec_enGood.f k x⟩
def spec_enGood.pl0 : Refl.Pn G (Refl.PT G (spec_enGood.e 0).ol) := ⟨true, 0, ⟨[(0, .v (.c (.row 71 false))), (5, .v (.c (.row 71 false))), (6, .v (.c li)), (7, .v (.c li)), (2, .k (Value.bool false))], []⟩, fun k x => spec_enGood.l0 k x.1 x.2.1 x.2.2.1 x.2.2.2⟩
theorem spec_enGood.ok (k : Nat) : Refl.EntOK Tryz.prog (spec_enGood.e k) := Refl.ent_ok 1000000 k GC (fun k => [spec_enOne.e k, spec_enBefore.e k]) (fun k => ⟨spec_enOne.ok k, spec_enBefore.ok k, trivial⟩) Tryz.func31 (by kernel_rfl) [spec_enGood.pl0] (ps := [spec_enGood.pl0]) (by kernel_rfl) ⟨⟨fun x => by kernel_rfl, fun k x => by kernel_rfl⟩, trivial⟩ (fun x => by kernel_rfl)

/-! ### spec_AreEntries: function 8 -/

def spec_AreEntries.f (k : Nat) (l0 : List (S71)) : Option (Bool) := (spec_enGood.f k l0).bind fun t219 => (some t219)

theorem spec_AreEntries.mono : ∀ a0 k, LeO (spec_AreEntries.f k a0) (spec_AreEntries.f (k + 1) a0) := by
  intro a0 k
  unfold spec_AreEntries.f
  repeat' first
      | (with_reducible exact spec_enGood.mono _ _)
      | (with_reducible exact LeO.refl _)
      | (with_reducible exact LeO.none _)
      | (with_reducible refine LeO.ite ?_ ?_)
      | (with_reducible refine LeO.bind ?_ (fun _ => ?_))
      | exact spec_enGood.mono _ _
      | exact LeO.none _
      | refine LeO.ite ?_ ?_
      | refine LeO.bind ?_ (fun _ => ?_)

def spec_AreEntries.e (k : Nat) : Refl.Ent G := ⟨8, [(.c (.row 71 false))], .one (.c .bool), fun x => spec_AreEntries.f k x⟩
theorem spec_AreEntries.ok (k : Nat) : Refl.EntOK Tryz.prog (spec_AreEntries.e k) := Refl.ent_ok 1000000 k GC (fun k => [spec_enGood.e k]) (fun k => ⟨spec_enGood.ok k, trivial⟩) Tryz.func8 (by kernel_rfl) [] (ps := []) (by kernel_rfl) trivial (fun x => by kernel_rfl)

/-! ### laws_toShape: function 140 -/

def laws_toShape.f (a0_0 : Int) (a0_1 : Int) (a0_2 : Int) (a0_3 : Int) (a0_4 : Int) (a0_5 : Bool) : Option (Int × Int × Int × Int × Int × Bool) := some (a0_0, a0_1, a0_2, a0_3, a0_4, a0_5)

def laws_toShape.e (k : Nat) : Refl.Ent G := ⟨140, [(.agg [li, li, li, li, li, .bool])], .one (.agg [li, li, li, li, li, .bool]), fun x => laws_toShape.f x.1 x.2.1 x.2.2.1 x.2.2.2.1 x.2.2.2.2.1 x.2.2.2.2.2⟩
theorem laws_toShape.ok (k : Nat) : Refl.EntOK Tryz.prog (laws_toShape.e k) := Refl.ent_ok 1000000 k GC (fun k => []) (fun k => trivial) Tryz.func140 (by kernel_rfl) [] (ps := []) (by kernel_rfl) trivial (fun x => by kernel_rfl)

/-! ### laws_toOrient: function 141 -/

def laws_toOrient.f (a0_0 : Int) (a0_1 : Int) : Option (Int × Int) := some (a0_0, a0_1)

def laws_toOrient.e (k : Nat) : Refl.Ent G := ⟨141, [(.agg [li, li])], .one (.agg [li, li]), fun x => laws_toOrient.f x.1 x.2⟩
theorem laws_toOrient.ok (k : Nat) : Refl.EntOK Tryz.prog (laws_toOrient.e k) := Refl.ent_ok 1000000 k GC (fun k => []) (fun k => trivial) Tryz.func141 (by kernel_rfl) [] (ps := []) (by kernel_rfl) trivial (fun x => by kernel_rfl)

/-! ### laws_toPlace: function 142 -/

def laws_toPlace.f (a0_0 : Int) (a0_1 : Int) (a0_2 : Bool) : Option (Int × Int × Bool) := some (a0_0, a0_1, a0_2)

def laws_toPlace.e (k : Nat) : Refl.Ent G := ⟨142, [(.agg [li, li, .bool])], .one (.agg [li, li, .bool]), fun x => laws_toPlace.f x.1 x.2.1 x.2.2⟩
theorem laws_toPlace.ok (k : Nat) : Refl.EntOK Tryz.prog (laws_toPlace.e k) := Refl.ent_ok 1000000 k GC (fun k => []) (fun k => trivial) Tryz.func142 (by kernel_rfl) [] (ps := []) (by kernel_rfl) trivial (fun x => by kernel_rfl)

/-! ### laws_toMove: function 143 -/

def laws_toMove.f (a0_0 : ByteArray) (a0_1 : Int) : Option (ByteArray × Int) := some (a0_0, a0_1)

def laws_toMove.e (k : Nat) : Refl.Ent G := ⟨143, [(.agg [.str, li])], .one (.agg [.str, li]), fun x => laws_toMove.f x.1 x.2⟩
theorem laws_toMove.ok (k : Nat) : Refl.EntOK Tryz.prog (laws_toMove.e k) := Refl.ent_ok 1000000 k GC (fun k => []) (fun k => trivial) Tryz.func143 (by kernel_rfl) [] (ps := []) (by kernel_rfl) trivial (fun x => by kernel_rfl)

/-! ### laws_toHand: function 104 -/

def laws_toHand.f (a0_0 : Int) (a0_1 : Int) (a0_2 : Int) (a0_3 : Int) (a0_4 : Int) (a0_5 : Bool) (a0_6 : Int) (a0_7 : Int) (a0_8 : Int) (a0_9 : Int) (a0_10 : Bool) (a0_11 : ByteArray) (a0_12 : Int) : Option (Int × Int × Int × Int × Int × Bool × Int × Int × Int × Int × Bool × ByteArray × Int) := (laws_toShape.f a0_0 a0_1 a0_2 a0_3 a0_4 a0_5).bind fun bt235 => ((laws_toOrient.f a0_6 a0_7).bind fun bt241 => ((laws_toPlace.f a0_8 a0_9 a0_10).bind fun bt243 => ((laws_toMove.f a0_11 a0_12).bind fun bt246 => (some (bt235.1, bt235.2.1, bt235.2.2.1, bt235.2.2.2.1, bt235.2.2.2.2.1, bt235.2.2.2.2.2, bt241.1, bt241.2, bt243.1, bt243.2.1, bt243.2.2, bt246.1, bt246.2)))))

def laws_toHand.e (k : Nat) : Refl.Ent G := ⟨104, [(.agg gL0)], .one (.agg gL0), fun x => laws_toHand.f x.1 x.2.1 x.2.2.1 x.2.2.2.1 x.2.2.2.2.1 x.2.2.2.2.2.1 x.2.2.2.2.2.2.1 x.2.2.2.2.2.2.2.1 x.2.2.2.2.2.2.2.2.1 x.2.2.2.2.2.2.2.2.2.1 x.2.2.2.2.2.2.2.2.2.2.1 x.2.2.2.2.2.2.2.2.2.2.2.1 x.2.2.2.2.2.2.2.2.2.2.2.2⟩
theorem laws_toHand.ok (k : Nat) : Refl.EntOK Tryz.prog (laws_toHand.e k) := Refl.ent_ok 1000000 k GC (fun k => [laws_toShape.e k, laws_toOrient.e k, laws_toPlace.e k, laws_toMove.e k]) (fun k => ⟨laws_toShape.ok k, laws_toOrient.ok k, laws_toPlace.ok k, laws_toMove.ok k, trivial⟩) Tryz.func104 (by kernel_rfl) [] (ps := []) (by kernel_rfl) trivial (fun x => by kernel_rfl)

/-! ### laws_toSign: function 63 -/

def laws_toSign.f (a0_0 : Int) (a0_1 : Int) (a0_2 : Int) (a0_3 : Int) (a0_4 : Int) (a0_5 : Bool) (a0_6 : Int) (a0_7 : Int) (a0_8 : Int) (a0_9 : Int) (a0_10 : Bool) (a0_11 : ByteArray) (a0_12 : Int) (a0_13 : Bool) (a0_14 : Int) (a0_15 : Int) (a0_16 : Int) (a0_17 : Int) (a0_18 : Int) (a0_19 : Bool) (a0_20 : Int) (a0_21 : Int) (a0_22 : Int) (a0_23 : Int) (a0_24 : Bool) (a0_25 : ByteArray) (a0_26 : Int) : Option (Int × Int × Int × Int × Int × Bool × Int × Int × Int × Int × Bool × ByteArray × Int × Bool × Int × Int × Int × Int × Int × Bool × Int × Int × Int × Int × Bool × ByteArray × Int) := (laws_toHand.f a0_0 a0_1 a0_2 a0_3 a0_4 a0_5 a0_6 a0_7 a0_8 a0_9 a0_10 a0_11 a0_12).bind fun x => (laws_toHand.f a0_14 a0_15 a0_16 a0_17 a0_18 a0_19 a0_20 a0_21 a0_22 a0_23 a0_24 a0_25 a0_26).bind fun y => some (x.1, x.2.1, x.2.2.1, x.2.2.2.1, x.2.2.2.2.1, x.2.2.2.2.2.1, x.2.2.2.2.2.2.1, x.2.2.2.2.2.2.2.1, x.2.2.2.2.2.2.2.2.1, x.2.2.2.2.2.2.2.2.2.1, x.2.2.2.2.2.2.2.2.2.2.1, x.2.2.2.2.2.2.2.2.2.2.2.1, x.2.2.2.2.2.2.2.2.2.2.2.2, a0_13, y.1, y.2.1, y.2.2.1, y.2.2.2.1, y.2.2.2.2.1, y.2.2.2.2.2.1, y.2.2.2.2.2.2.1, y.2.2.2.2.2.2.2.1, y.2.2.2.2.2.2.2.2.1, y.2.2.2.2.2.2.2.2.2.1, y.2.2.2.2.2.2.2.2.2.2.1, y.2.2.2.2.2.2.2.2.2.2.2.1, y.2.2.2.2.2.2.2.2.2.2.2.2)

def laws_toSign.e (k : Nat) : Refl.Ent G := ⟨63, [(.agg gL1)], .one (.agg gL1), fun x => laws_toSign.f x.1 x.2.1 x.2.2.1 x.2.2.2.1 x.2.2.2.2.1 x.2.2.2.2.2.1 x.2.2.2.2.2.2.1 x.2.2.2.2.2.2.2.1 x.2.2.2.2.2.2.2.2.1 x.2.2.2.2.2.2.2.2.2.1 x.2.2.2.2.2.2.2.2.2.2.1 x.2.2.2.2.2.2.2.2.2.2.2.1 x.2.2.2.2.2.2.2.2.2.2.2.2.1 x.2.2.2.2.2.2.2.2.2.2.2.2.2.1 x.2.2.2.2.2.2.2.2.2.2.2.2.2.2.1 x.2.2.2.2.2.2.2.2.2.2.2.2.2.2.2.1 x.2.2.2.2.2.2.2.2.2.2.2.2.2.2.2.2.1 x.2.2.2.2.2.2.2.2.2.2.2.2.2.2.2.2.2.1 x.2.2.2.2.2.2.2.2.2.2.2.2.2.2.2.2.2.2.1 x.2.2.2.2.2.2.2.2.2.2.2.2.2.2.2.2.2.2.2.1 x.2.2.2.2.2.2.2.2.2.2.2.2.2.2.2.2.2.2.2.2.1 x.2.2.2.2.2.2.2.2.2.2.2.2.2.2.2.2.2.2.2.2.2.1 x.2.2.2.2.2.2.2.2.2.2.2.2.2.2.2.2.2.2.2.2.2.2.1 x.2.2.2.2.2.2.2.2.2.2.2.2.2.2.2.2.2.2.2.2.2.2.2.1 x.2.2.2.2.2.2.2.2.2.2.2.2.2.2.2.2.2.2.2.2.2.2.2.2.1 x.2.2.2.2.2.2.2.2.2.2.2.2.2.2.2.2.2.2.2.2.2.2.2.2.2.1 x.2.2.2.2.2.2.2.2.2.2.2.2.2.2.2.2.2.2.2.2.2.2.2.2.2.2⟩
theorem laws_toSign.ok (k : Nat) : Refl.EntOK Tryz.prog (laws_toSign.e k) := Refl.ent_ok 1000000 k GC (fun k => [laws_toHand.e k]) (fun k => ⟨laws_toHand.ok k, trivial⟩) Tryz.func63 (by kernel_rfl) [] (ps := []) (by kernel_rfl) trivial (fun x => by kernel_rfl)

/-! ### laws_toEntry: function 32 -/

def laws_toEntry.f (a0_0 : ByteArray) (a0_1 : Int) (a0_2 : Int) (a0_3 : Int) (a0_4 : Int) (a0_5 : Int) (a0_6 : Bool) (a0_7 : Int) (a0_8 : Int) (a0_9 : Int) (a0_10 : Int) (a0_11 : Bool) (a0_12 : ByteArray) (a0_13 : Int) (a0_14 : Bool) (a0_15 : Int) (a0_16 : Int) (a0_17 : Int) (a0_18 : Int) (a0_19 : Int) (a0_20 : Bool) (a0_21 : Int) (a0_22 : Int) (a0_23 : Int) (a0_24 : Int) (a0_25 : Bool) (a0_26 : ByteArray) (a0_27 : Int) (a0_28 : Int) (a0_29 : Int) : Option (ByteArray × Int × Int × Int × Int × Int × Bool × Int × Int × Int × Int × Bool × ByteArray × Int × Bool × Int × Int × Int × Int × Int × Bool × Int × Int × Int × Int × Bool × ByteArray × Int × Int × Int) := (laws_toSign.f a0_1 a0_2 a0_3 a0_4 a0_5 a0_6 a0_7 a0_8 a0_9 a0_10 a0_11 a0_12 a0_13 a0_14 a0_15 a0_16 a0_17 a0_18 a0_19 a0_20 a0_21 a0_22 a0_23 a0_24 a0_25 a0_26 a0_27).bind fun bt251 => (some (a0_0, bt251.1, bt251.2.1, bt251.2.2.1, bt251.2.2.2.1, bt251.2.2.2.2.1, bt251.2.2.2.2.2.1, bt251.2.2.2.2.2.2.1, bt251.2.2.2.2.2.2.2.1, bt251.2.2.2.2.2.2.2.2.1, bt251.2.2.2.2.2.2.2.2.2.1, bt251.2.2.2.2.2.2.2.2.2.2.1, bt251.2.2.2.2.2.2.2.2.2.2.2.1, bt251.2.2.2.2.2.2.2.2.2.2.2.2.1, bt251.2.2.2.2.2.2.2.2.2.2.2.2.2.1, bt251.2.2.2.2.2.2.2.2.2.2.2.2.2.2.1, bt251.2.2.2.2.2.2.2.2.2.2.2.2.2.2.2.1, bt251.2.2.2.2.2.2.2.2.2.2.2.2.2.2.2.2.1, bt251.2.2.2.2.2.2.2.2.2.2.2.2.2.2.2.2.2.1, bt251.2.2.2.2.2.2.2.2.2.2.2.2.2.2.2.2.2.2.1, bt251.2.2.2.2.2.2.2.2.2.2.2.2.2.2.2.2.2.2.2.1, bt251.2.2.2.2.2.2.2.2.2.2.2.2.2.2.2.2.2.2.2.2.1, bt251.2.2.2.2.2.2.2.2.2.2.2.2.2.2.2.2.2.2.2.2.2.1, bt251.2.2.2.2.2.2.2.2.2.2.2.2.2.2.2.2.2.2.2.2.2.2.1, bt251.2.2.2.2.2.2.2.2.2.2.2.2.2.2.2.2.2.2.2.2.2.2.2.1, bt251.2.2.2.2.2.2.2.2.2.2.2.2.2.2.2.2.2.2.2.2.2.2.2.2.1, bt251.2.2.2.2.2.2.2.2.2.2.2.2.2.2.2.2.2.2.2.2.2.2.2.2.2.1, bt251.2.2.2.2.2.2.2.2.2.2.2.2.2.2.2.2.2.2.2.2.2.2.2.2.2.2, a0_28, a0_29))

def laws_toEntry.e (k : Nat) : Refl.Ent G := ⟨32, [(.agg gL2)], .one (.agg gL2), fun x => laws_toEntry.f x.1 x.2.1 x.2.2.1 x.2.2.2.1 x.2.2.2.2.1 x.2.2.2.2.2.1 x.2.2.2.2.2.2.1 x.2.2.2.2.2.2.2.1 x.2.2.2.2.2.2.2.2.1 x.2.2.2.2.2.2.2.2.2.1 x.2.2.2.2.2.2.2.2.2.2.1 x.2.2.2.2.2.2.2.2.2.2.2.1 x.2.2.2.2.2.2.2.2.2.2.2.2.1 x.2.2.2.2.2.2.2.2.2.2.2.2.2.1 x.2.2.2.2.2.2.2.2.2.2.2.2.2.2.1 x.2.2.2.2.2.2.2.2.2.2.2.2.2.2.2.1 x.2.2.2.2.2.2.2.2.2.2.2.2.2.2.2.2.1 x.2.2.2.2.2.2.2.2.2.2.2.2.2.2.2.2.2.1 x.2.2.2.2.2.2.2.2.2.2.2.2.2.2.2.2.2.2.1 x.2.2.2.2.2.2.2.2.2.2.2.2.2.2.2.2.2.2.2.1 x.2.2.2.2.2.2.2.2.2.2.2.2.2.2.2.2.2.2.2.2.1 x.2.2.2.2.2.2.2.2.2.2.2.2.2.2.2.2.2.2.2.2.2.1 x.2.2.2.2.2.2.2.2.2.2.2.2.2.2.2.2.2.2.2.2.2.2.1 x.2.2.2.2.2.2.2.2.2.2.2.2.2.2.2.2.2.2.2.2.2.2.2.1 x.2.2.2.2.2.2.2.2.2.2.2.2.2.2.2.2.2.2.2.2.2.2.2.2.1 x.2.2.2.2.2.2.2.2.2.2.2.2.2.2.2.2.2.2.2.2.2.2.2.2.2.1 x.2.2.2.2.2.2.2.2.2.2.2.2.2.2.2.2.2.2.2.2.2.2.2.2.2.2.1 x.2.2.2.2.2.2.2.2.2.2.2.2.2.2.2.2.2.2.2.2.2.2.2.2.2.2.2.1 x.2.2.2.2.2.2.2.2.2.2.2.2.2.2.2.2.2.2.2.2.2.2.2.2.2.2.2.2.1 x.2.2.2.2.2.2.2.2.2.2.2.2.2.2.2.2.2.2.2.2.2.2.2.2.2.2.2.2.2⟩
theorem laws_toEntry.ok (k : Nat) : Refl.EntOK Tryz.prog (laws_toEntry.e k) := Refl.ent_ok 1000000 k GC (fun k => [laws_toSign.e k]) (fun k => ⟨laws_toSign.ok k, trivial⟩) Tryz.func32 (by kernel_rfl) [] (ps := []) (by kernel_rfl) trivial (fun x => by kernel_rfl)

end Go.Proofs.YtaaldnaefdodkaaGreatDoor.PA
