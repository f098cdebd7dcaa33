-- Written by a program of this session (wip/tools/myprint.py). Not trusted: Lean checks it.
import Derived.Test.YtojfncpjgpklhaaGreatDoorCtx
import Derived.Test.YtojfncpjgpklhaaGreatDoorPAx6
import Derived.Test.YtojfncpjgpklhaaGreatDoorPAx7
import Derived.Test.YtojfncpjgpklhaaGreatDoorPAx8
import Derived.Test.YtojfncpjgpklhaaGreatDoorPAx9
import Derived.Test.YtojfncpjgpklhaaGreatDoorPAx11
import Derived.Test.YtojfncpjgpklhaaGreatDoorPAx12
namespace Go.Proofs.YtojfncpjgpklhaaGreatDoor.PA
open Go.RowKit Go.Proofs.YtojfncpjgpklhaaGreatDoorW.PrintWords Go.Proofs.YtojfncpjgpklhaaGreatDoorW.PrintLast Go.Proofs.YtojfncpjgpklhaaGreatDoorW.PrintMore
attribute [local go_sem] max2_int min2_int max_two min_two max_three min_three max_four min_four   -- for this text's walks alone
set_option linter.unusedVariables false
set_option linter.unusedSimpArgs false

attribute [local go_sem high] eqA44
/-! ### spec_plMirror: function 129 -/

def spec_plMirror.f (a0_0 : Int) (a0_1 : Int) (a0_2 : Bool) : Option (Int × Int × Bool) := some (a0_0, wrap64 (0 - a0_1), a0_2)

def spec_plMirror.e (k : Nat) : Refl.Ent G := ⟨129, [(.agg [li, li, .bool])], .one (.agg [li, li, .bool]), fun x => spec_plMirror.f x.1 x.2.1 x.2.2⟩
theorem spec_plMirror.ok (k : Nat) : Refl.EntOK Tryz.prog (spec_plMirror.e k) := Refl.ent_ok 1000000 k GC (fun k => []) (fun k => trivial) Tryz.func129 (by kernel_rfl) [] (ps := []) (by kernel_rfl) trivial (fun x => by kernel_rfl)

/-! ### spec_noMirrorHand: function 82 -/

def spec_noMirrorHand.f (k : Nat) (a0_0 : Int) (a0_1 : Int) (a0_2 : Int) (a0_3 : Int) (a0_4 : Int) (a0_5 : Bool) (a0_6 : Int) (a0_7 : Int) (a0_8 : Int) (a0_9 : Int) (a0_10 : Bool) (a0_11 : ByteArray) (a0_12 : Int) : Option (Int × Int × Int × Int × Int × Bool × Int × Int × Int × Int × Bool × ByteArray × Int) := (spec_orMirror.f a0_6 a0_7).bind fun bt703 => ((spec_plMirror.f a0_8 a0_9 a0_10).bind fun bt705 => ((spec_mvMirror.f k a0_11 a0_12).bind fun bt708 => (some (a0_0, a0_1, a0_2, a0_3, a0_4, a0_5, bt703.1, bt703.2, bt705.1, bt705.2.1, bt705.2.2, bt708.1, bt708.2))))

theorem spec_noMirrorHand.mono : ∀ a0 a1 a2 a3 a4 a5 a6 a7 a8 a9 a10 a11 a12 k, LeO (spec_noMirrorHand.f k a0 a1 a2 a3 a4 a5 a6 a7 a8 a9 a10 a11 a12) (spec_noMirrorHand.f (k + 1) a0 a1 a2 a3 a4 a5 a6 a7 a8 a9 a10 a11 a12) := by
  intro a0 a1 a2 a3 a4 a5 a6 a7 a8 a9 a10 a11 a12 k
  unfold spec_noMirrorHand.f
  repeat' first
      | (with_reducible exact spec_mvMirror.mono _ _ _)
      | (with_reducible exact LeO.refl _)
      | (with_reducible exact LeO.none _)
      | (with_reducible refine LeO.ite ?_ ?_)
      | (with_reducible refine LeO.bind ?_ (fun _ => ?_))
      | exact spec_mvMirror.mono _ _ _
      | exact LeO.none _
      | refine LeO.ite ?_ ?_
      | refine LeO.bind ?_ (fun _ => ?_)

def spec_noMirrorHand.e (k : Nat) : Refl.Ent G := ⟨82, [(.agg gL0)], .one (.agg gL0), fun x => spec_noMirrorHand.f k x.1 x.2.1 x.2.2.1 x.2.2.2.1 x.2.2.2.2.1 x.2.2.2.2.2.1 x.2.2.2.2.2.2.1 x.2.2.2.2.2.2.2.1 x.2.2.2.2.2.2.2.2.1 x.2.2.2.2.2.2.2.2.2.1 x.2.2.2.2.2.2.2.2.2.2.1 x.2.2.2.2.2.2.2.2.2.2.2.1 x.2.2.2.2.2.2.2.2.2.2.2.2⟩
theorem spec_noMirrorHand.ok (k : Nat) : Refl.EntOK Tryz.prog (spec_noMirrorHand.e k) := Refl.ent_ok 1000000 k GC (fun k => [spec_orMirror.e k, spec_plMirror.e k, spec_mvMirror.e k]) (fun k => ⟨spec_orMirror.ok k, spec_plMirror.ok k, spec_mvMirror.ok k, trivial⟩) Tryz.func82 (by kernel_rfl) [] (ps := []) (by kernel_rfl) trivial (fun x => by kernel_rfl)

/-! ### spec_noMirror: function 46 -/

def spec_noMirror.f (k : Nat) (a0_0 : Int) (a0_1 : Int) (a0_2 : Int) (a0_3 : Int) (a0_4 : Int) (a0_5 : Bool) (a0_6 : Int) (a0_7 : Int) (a0_8 : Int) (a0_9 : Int) (a0_10 : Bool) (a0_11 : ByteArray) (a0_12 : Int) (a0_13 : Bool) (a0_14 : Int) (a0_15 : Int) (a0_16 : Int) (a0_17 : Int) (a0_18 : Int) (a0_19 : Bool) (a0_20 : Int) (a0_21 : Int) (a0_22 : Int) (a0_23 : Int) (a0_24 : Bool) (a0_25 : ByteArray) (a0_26 : Int) : Option (Int × Int × Int × Int × Int × Bool × Int × Int × Int × Int × Bool × ByteArray × Int × Bool × Int × Int × Int × Int × Int × Bool × Int × Int × Int × Int × Bool × ByteArray × Int) := (spec_noMirrorHand.f k a0_0 a0_1 a0_2 a0_3 a0_4 a0_5 a0_6 a0_7 a0_8 a0_9 a0_10 a0_11 a0_12).bind fun bt712 => (if a0_13 = true then ((spec_noMirrorHand.f k a0_14 a0_15 a0_16 a0_17 a0_18 a0_19 a0_20 a0_21 a0_22 a0_23 a0_24 a0_25 a0_26).bind fun bt726 => (some (bt712.1, bt712.2.1, bt712.2.2.1, bt712.2.2.2.1, bt712.2.2.2.2.1, bt712.2.2.2.2.2.1, bt712.2.2.2.2.2.2.1, bt712.2.2.2.2.2.2.2.1, bt712.2.2.2.2.2.2.2.2.1, bt712.2.2.2.2.2.2.2.2.2.1, bt712.2.2.2.2.2.2.2.2.2.2.1, bt712.2.2.2.2.2.2.2.2.2.2.2.1, bt712.2.2.2.2.2.2.2.2.2.2.2.2, a0_13, bt726.1, bt726.2.1, bt726.2.2.1, bt726.2.2.2.1, bt726.2.2.2.2.1, bt726.2.2.2.2.2.1, bt726.2.2.2.2.2.2.1, bt726.2.2.2.2.2.2.2.1, bt726.2.2.2.2.2.2.2.2.1, bt726.2.2.2.2.2.2.2.2.2.1, bt726.2.2.2.2.2.2.2.2.2.2.1, bt726.2.2.2.2.2.2.2.2.2.2.2.1, bt726.2.2.2.2.2.2.2.2.2.2.2.2))) else (some (bt712.1, bt712.2.1, bt712.2.2.1, bt712.2.2.2.1, bt712.2.2.2.2.1, bt712.2.2.2.2.2.1, bt712.2.2.2.2.2.2.1, bt712.2.2.2.2.2.2.2.1, bt712.2.2.2.2.2.2.2.2.1, bt712.2.2.2.2.2.2.2.2.2.1, bt712.2.2.2.2.2.2.2.2.2.2.1, bt712.2.2.2.2.2.2.2.2.2.2.2.1, bt712.2.2.2.2.2.2.2.2.2.2.2.2, a0_13, 0, 0, 0, 0, 0, false, 0, 0, 0, 0, false, (⟨#[]⟩ : ByteArray), 0)))

theorem spec_noMirror.mono : ∀ a0 a1 a2 a3 a4 a5 a6 a7 a8 a9 a10 a11 a12 a13 a14 a15 a16 a17 a18 a19 a20 a21 a22 a23 a24 a25 a26 k, LeO (spec_noMirror.f k a0 a1 a2 a3 a4 a5 a6 a7 a8 a9 a10 a11 a12 a13 a14 a15 a16 a17 a18 a19 a20 a21 a22 a23 a24 a25 a26) (spec_noMirror.f (k + 1) a0 a1 a2 a3 a4 a5 a6 a7 a8 a9 a10 a11 a12 a13 a14 a15 a16 a17 a18 a19 a20 a21 a22 a23 a24 a25 a26) := by
  intro a0 a1 a2 a3 a4 a5 a6 a7 a8 a9 a10 a11 a12 a13 a14 a15 a16 a17 a18 a19 a20 a21 a22 a23 a24 a25 a26 k
  unfold spec_noMirror.f
  repeat' first
      | (with_reducible exact spec_noMirrorHand.mono _ _ _ _ _ _ _ _ _ _ _ _ _ _)
      | (with_reducible exact LeO.refl _)
      | (with_reducible exact LeO.none _)
      | (with_reducible refine LeO.ite ?_ ?_)
      | (with_reducible refine LeO.bind ?_ (fun _ => ?_))
      | exact spec_noMirrorHand.mono _ _ _ _ _ _ _ _ _ _ _ _ _ _
      | exact LeO.none _
      | refine LeO.ite ?_ ?_
      | refine LeO.bind ?_ (fun _ => ?_)

def spec_noMirror.e (k : Nat) : Refl.Ent G := ⟨46, [(.agg gL1)], .one (.agg gL1), fun x => spec_noMirror.f k x.1 x.2.1 x.2.2.1 x.2.2.2.1 x.2.2.2.2.1 x.2.2.2.2.2.1 x.2.2.2.2.2.2.1 x.2.2.2.2.2.2.2.1 x.2.2.2.2.2.2.2.2.1 x.2.2.2.2.2.2.2.2.2.1 x.2.2.2.2.2.2.2.2.2.2.1 x.2.2.2.2.2.2.2.2.2.2.2.1 x.2.2.2.2.2.2.2.2.2.2.2.2.1 x.2.2.2.2.2.2.2.2.2.2.2.2.2.1 x.2.2.2.2.2.2.2.2.2.2.2.2.2.2.1 x.2.2.2.2.2.2.2.2.2.2.2.2.2.2.2.1 x.2.2.2.2.2.2.2.2.2.2.2.2.2.2.2.2.1 x.2.2.2.2.2.2.2.2.2.2.2.2.2.2.2.2.2.1 x.2.2.2.2.2.2.2.2.2.2.2.2.2.2.2.2.2.2.1 x.2.2.2.2.2.2.2.2.2.2.2.2.2.2.2.2.2.2.2.1 x.2.2.2.2.2.2.2.2.2.2.2.2.2.2.2.2.2.2.2.2.1 x.2.2.2.2.2.2.2.2.2.2.2.2.2.2.2.2.2.2.2.2.2.1 x.2.2.2.2.2.2.2.2.2.2.2.2.2.2.2.2.2.2.2.2.2.2.1 x.2.2.2.2.2.2.2.2.2.2.2.2.2.2.2.2.2.2.2.2.2.2.2.1 x.2.2.2.2.2.2.2.2.2.2.2.2.2.2.2.2.2.2.2.2.2.2.2.2.1 x.2.2.2.2.2.2.2.2.2.2.2.2.2.2.2.2.2.2.2.2.2.2.2.2.2.1 x.2.2.2.2.2.2.2.2.2.2.2.2.2.2.2.2.2.2.2.2.2.2.2.2.2.2⟩
theorem spec_noMirror.ok (k : Nat) : Refl.EntOK Tryz.prog (spec_noMirror.e k) := Refl.ent_ok 1000000 k GC (fun k => [spec_noMirrorHand.e k]) (fun k => ⟨spec_noMirrorHand.ok k, trivial⟩) Tryz.func46 (by kernel_rfl) [] (ps := []) (by kernel_rfl) trivial (fun x => by kernel_rfl)

/-! ### spec_MirrorsItself: function 18 -/

def spec_MirrorsItself.f (k : Nat) (a0_0 : Int) (a0_1 : Int) (a0_2 : Int) (a0_3 : Int) (a0_4 : Int) (a0_5 : Bool) (a0_6 : Int) (a0_7 : Int) (a0_8 : Int) (a0_9 : Int) (a0_10 : Bool) (a0_11 : ByteArray) (a0_12 : Int) (a0_13 : Bool) (a0_14 : Int) (a0_15 : Int) (a0_16 : Int) (a0_17 : Int) (a0_18 : Int) (a0_19 : Bool) (a0_20 : Int) (a0_21 : Int) (a0_22 : Int) (a0_23 : Int) (a0_24 : Bool) (a0_25 : ByteArray) (a0_26 : Int) : Option (Bool × Bool) := (spec_siGood.f k a0_0 a0_1 a0_2 a0_3 a0_4 a0_5 a0_6 a0_7 a0_8 a0_9 a0_10 a0_11 a0_12 a0_13 a0_14 a0_15 a0_16 a0_17 a0_18 a0_19 a0_20 a0_21 a0_22 a0_23 a0_24 a0_25 a0_26).bind fun t740 => (if t740 = true then ((spec_noMirror.f k a0_0 a0_1 a0_2 a0_3 a0_4 a0_5 a0_6 a0_7 a0_8 a0_9 a0_10 a0_11 a0_12 a0_13 a0_14 a0_15 a0_16 a0_17 a0_18 a0_19 a0_20 a0_21 a0_22 a0_23 a0_24 a0_25 a0_26).bind fun bt741 => ((spec_noSame.f k a0_0 a0_1 a0_2 a0_3 a0_4 a0_5 a0_6 a0_7 a0_8 a0_9 a0_10 a0_11 a0_12 a0_13 a0_14 a0_15 a0_16 a0_17 a0_18 a0_19 a0_20 a0_21 a0_22 a0_23 a0_24 a0_25 a0_26 bt741.1 bt741.2.1 bt741.2.2.1 bt741.2.2.2.1 bt741.2.2.2.2.1 bt741.2.2.2.2.2.1 bt741.2.2.2.2.2.2.1 bt741.2.2.2.2.2.2.2.1 bt741.2.2.2.2.2.2.2.2.1 bt741.2.2.2.2.2.2.2.2.2.1 bt741.2.2.2.2.2.2.2.2.2.2.1 bt741.2.2.2.2.2.2.2.2.2.2.2.1 bt741.2.2.2.2.2.2.2.2.2.2.2.2.1 bt741.2.2.2.2.2.2.2.2.2.2.2.2.2.1 bt741.2.2.2.2.2.2.2.2.2.2.2.2.2.2.1 bt741.2.2.2.2.2.2.2.2.2.2.2.2.2.2.2.1 bt741.2.2.2.2.2.2.2.2.2.2.2.2.2.2.2.2.1 bt741.2.2.2.2.2.2.2.2.2.2.2.2.2.2.2.2.2.1 bt741.2.2.2.2.2.2.2.2.2.2.2.2.2.2.2.2.2.2.1 bt741.2.2.2.2.2.2.2.2.2.2.2.2.2.2.2.2.2.2.2.1 bt741.2.2.2.2.2.2.2.2.2.2.2.2.2.2.2.2.2.2.2.2.1 bt741.2.2.2.2.2.2.2.2.2.2.2.2.2.2.2.2.2.2.2.2.2.1 bt741.2.2.2.2.2.2.2.2.2.2.2.2.2.2.2.2.2.2.2.2.2.2.1 bt741.2.2.2.2.2.2.2.2.2.2.2.2.2.2.2.2.2.2.2.2.2.2.2.1 bt741.2.2.2.2.2.2.2.2.2.2.2.2.2.2.2.2.2.2.2.2.2.2.2.2.1 bt741.2.2.2.2.2.2.2.2.2.2.2.2.2.2.2.2.2.2.2.2.2.2.2.2.2.1 bt741.2.2.2.2.2.2.2.2.2.2.2.2.2.2.2.2.2.2.2.2.2.2.2.2.2.2).bind fun t768 => (some (t768, true)))) else (some (false, false)))

theorem spec_MirrorsItself.mono : ∀ a0 a1 a2 a3 a4 a5 a6 a7 a8 a9 a10 a11 a12 a13 a14 a15 a16 a17 a18 a19 a20 a21 a22 a23 a24 a25 a26 k, LeO (spec_MirrorsItself.f k a0 a1 a2 a3 a4 a5 a6 a7 a8 a9 a10 a11 a12 a13 a14 a15 a16 a17 a18 a19 a20 a21 a22 a23 a24 a25 a26) (spec_MirrorsItself.f (k + 1) a0 a1 a2 a3 a4 a5 a6 a7 a8 a9 a10 a11 a12 a13 a14 a15 a16 a17 a18 a19 a20 a21 a22 a23 a24 a25 a26) := by
  intro a0 a1 a2 a3 a4 a5 a6 a7 a8 a9 a10 a11 a12 a13 a14 a15 a16 a17 a18 a19 a20 a21 a22 a23 a24 a25 a26 k
  unfold spec_MirrorsItself.f
  repeat' first
      | (with_reducible exact spec_noMirror.mono _ _ _ _ _ _ _ _ _ _ _ _ _ _ _ _ _ _ _ _ _ _ _ _ _ _ _ _)
      | (with_reducible exact spec_noSame.mono _ _ _ _ _ _ _ _ _ _ _ _ _ _ _ _ _ _ _ _ _ _ _ _ _ _ _ _ _ _ _ _ _ _ _ _ _ _ _ _ _ _ _ _ _ _ _ _ _ _ _ _ _ _ _)
      | (with_reducible exact spec_siGood.mono _ _ _ _ _ _ _ _ _ _ _ _ _ _ _ _ _ _ _ _ _ _ _ _ _ _ _ _)
      | (with_reducible exact LeO.refl _)
      | (with_reducible exact LeO.none _)
      | (with_reducible refine LeO.ite ?_ ?_)
      | (with_reducible refine LeO.bind ?_ (fun _ => ?_))
      | exact spec_noMirror.mono _ _ _ _ _ _ _ _ _ _ _ _ _ _ _ _ _ _ _ _ _ _ _ _ _ _ _ _
      | exact spec_noSame.mono _ _ _ _ _ _ _ _ _ _ _ _ _ _ _ _ _ _ _ _ _ _ _ _ _ _ _ _ _ _ _ _ _ _ _ _ _ _ _ _ _ _ _ _ _ _ _ _ _ _ _ _ _ _ _
      | exact spec_siGood.mono _ _ _ _ _ _ _ _ _ _ _ _ _ _ _ _ _ _ _ _ _ _ _ _ _ _ _ _
      | exact LeO.none _
      | refine LeO.ite ?_ ?_
      | refine LeO.bind ?_ (fun _ => ?_)

def spec_MirrorsItself.e (k : Nat) : Refl.Ent G := ⟨18, [(.agg gL1)], .tup [(.c .bool), (.c .bool)], fun x => spec_MirrorsItself.f k x.1 x.2.1 x.2.2.1 x.2.2.2.1 x.2.2.2.2.1 x.2.2.2.2.2.1 x.2.2.2.2.2.2.1 x.2.2.2.2.2.2.2.1 x.2.2.2.2.2.2.2.2.1 x.2.2.2.2.2.2.2.2.2.1 x.2.2.2.2.2.2.2.2.2.2.1 x.2.2.2.2.2.2.2.2.2.2.2.1 x.2.2.2.2.2.2.2.2.2.2.2.2.1 x.2.2.2.2.2.2.2.2.2.2.2.2.2.1 x.2.2.2.2.2.2.2.2.2.2.2.2.2.2.1 x.2.2.2.2.2.2.2.2.2.2.2.2.2.2.2.1 x.2.2.2.2.2.2.2.2.2.2.2.2.2.2.2.2.1 x.2.2.2.2.2.2.2.2.2.2.2.2.2.2.2.2.2.1 x.2.2.2.2.2.2.2.2.2.2.2.2.2.2.2.2.2.2.1 x.2.2.2.2.2.2.2.2.2.2.2.2.2.2.2.2.2.2.2.1 x.2.2.2.2.2.2.2.2.2.2.2.2.2.2.2.2.2.2.2.2.1 x.2.2.2.2.2.2.2.2.2.2.2.2.2.2.2.2.2.2.2.2.2.1 x.2.2.2.2.2.2.2.2.2.2.2.2.2.2.2.2.2.2.2.2.2.2.1 x.2.2.2.2.2.2.2.2.2.2.2.2.2.2.2.2.2.2.2.2.2.2.2.1 x.2.2.2.2.2.2.2.2.2.2.2.2.2.2.2.2.2.2.2.2.2.2.2.2.1 x.2.2.2.2.2.2.2.2.2.2.2.2.2.2.2.2.2.2.2.2.2.2.2.2.2.1 x.2.2.2.2.2.2.2.2.2.2.2.2.2.2.2.2.2.2.2.2.2.2.2.2.2.2⟩
theorem spec_MirrorsItself.ok (k : Nat) : Refl.EntOK Tryz.prog (spec_MirrorsItself.e k) := Refl.ent_ok 1000000 k GC (fun k => [spec_siGood.e k, spec_noMirror.e k, spec_noSame.e k]) (fun k => ⟨spec_siGood.ok k, spec_noMirror.ok k, spec_noSame.ok k, trivial⟩) Tryz.func18 (by kernel_rfl) [] (ps := []) (by kernel_rfl) trivial (fun x => by kernel_rfl)

/-! ### impl_Hand_mirrored: function 83 -/

def impl_Hand_mirrored.f (a0_0 : Int) (a0_1 : Int) (a0_2 : Int) (a0_3 : Int) (a0_4 : Int) (a0_5 : Bool) (a0_6 : Int) (a0_7 : Int) (a0_8 : Int) (a0_9 : Int) (a0_10 : Bool) (a0_11 : ByteArray) (a0_12 : Int) : Option (Int × Int × Int × Int × Int × Bool × Int × Int × Int × Int × Bool × ByteArray × Int) := (impl_Orient_mirrored.f a0_6 a0_7).bind fun bt771 => ((impl_Move_mirrored.f a0_11 a0_12).bind fun bt773 => (some (a0_0, a0_1, a0_2, a0_3, a0_4, a0_5, bt771.1, bt771.2, a0_8, wrap64 (0 - a0_9), a0_10, bt773.1, bt773.2)))

def impl_Hand_mirrored.e (k : Nat) : Refl.Ent G := ⟨83, [(.agg gL0)], .one (.agg gL0), fun x => impl_Hand_mirrored.f x.1 x.2.1 x.2.2.1 x.2.2.2.1 x.2.2.2.2.1 x.2.2.2.2.2.1 x.2.2.2.2.2.2.1 x.2.2.2.2.2.2.2.1 x.2.2.2.2.2.2.2.2.1 x.2.2.2.2.2.2.2.2.2.1 x.2.2.2.2.2.2.2.2.2.2.1 x.2.2.2.2.2.2.2.2.2.2.2.1 x.2.2.2.2.2.2.2.2.2.2.2.2⟩
theorem impl_Hand_mirrored.ok (k : Nat) : Refl.EntOK Tryz.prog (impl_Hand_mirrored.e k) := Refl.ent_ok 1000000 k GC (fun k => [impl_Orient_mirrored.e k, impl_Move_mirrored.e k]) (fun k => ⟨impl_Orient_mirrored.ok k, impl_Move_mirrored.ok k, trivial⟩) Tryz.func83 (by kernel_rfl) [] (ps := []) (by kernel_rfl) trivial (fun x => by kernel_rfl)

/-! ### impl_Sign_mirrored: function 47 -/

def impl_Sign_mirrored.f (a0_0 : Int) (a0_1 : Int) (a0_2 : Int) (a0_3 : Int) (a0_4 : Int) (a0_5 : Bool) (a0_6 : Int) (a0_7 : Int) (a0_8 : Int) (a0_9 : Int) (a0_10 : Bool) (a0_11 : ByteArray) (a0_12 : Int) (a0_13 : Bool) (a0_14 : Int) (a0_15 : Int) (a0_16 : Int) (a0_17 : Int) (a0_18 : Int) (a0_19 : Bool) (a0_20 : Int) (a0_21 : Int) (a0_22 : Int) (a0_23 : Int) (a0_24 : Bool) (a0_25 : ByteArray) (a0_26 : Int) : Option (Int × Int × Int × Int × Int × Bool × Int × Int × Int × Int × Bool × ByteArray × Int × Bool × Int × Int × Int × Int × Int × Bool × Int × Int × Int × Int × Bool × ByteArray × Int) := (impl_Hand_mirrored.f a0_0 a0_1 a0_2 a0_3 a0_4 a0_5 a0_6 a0_7 a0_8 a0_9 a0_10 a0_11 a0_12).bind fun bt777 => (if a0_13 = true then ((impl_Hand_mirrored.f a0_14 a0_15 a0_16 a0_17 a0_18 a0_19 a0_20 a0_21 a0_22 a0_23 a0_24 a0_25 a0_26).bind fun bt790 => (some (bt777.1, bt777.2.1, bt777.2.2.1, bt777.2.2.2.1, bt777.2.2.2.2.1, bt777.2.2.2.2.2.1, bt777.2.2.2.2.2.2.1, bt777.2.2.2.2.2.2.2.1, bt777.2.2.2.2.2.2.2.2.1, bt777.2.2.2.2.2.2.2.2.2.1, bt777.2.2.2.2.2.2.2.2.2.2.1, bt777.2.2.2.2.2.2.2.2.2.2.2.1, bt777.2.2.2.2.2.2.2.2.2.2.2.2, a0_13, bt790.1, bt790.2.1, bt790.2.2.1, bt790.2.2.2.1, bt790.2.2.2.2.1, bt790.2.2.2.2.2.1, bt790.2.2.2.2.2.2.1, bt790.2.2.2.2.2.2.2.1, bt790.2.2.2.2.2.2.2.2.1, bt790.2.2.2.2.2.2.2.2.2.1, bt790.2.2.2.2.2.2.2.2.2.2.1, bt790.2.2.2.2.2.2.2.2.2.2.2.1, bt790.2.2.2.2.2.2.2.2.2.2.2.2))) else (some (bt777.1, bt777.2.1, bt777.2.2.1, bt777.2.2.2.1, bt777.2.2.2.2.1, bt777.2.2.2.2.2.1, bt777.2.2.2.2.2.2.1, bt777.2.2.2.2.2.2.2.1, bt777.2.2.2.2.2.2.2.2.1, bt777.2.2.2.2.2.2.2.2.2.1, bt777.2.2.2.2.2.2.2.2.2.2.1, bt777.2.2.2.2.2.2.2.2.2.2.2.1, bt777.2.2.2.2.2.2.2.2.2.2.2.2, a0_13, a0_14, a0_15, a0_16, a0_17, a0_18, a0_19, a0_20, a0_21, a0_22, a0_23, a0_24, a0_25, a0_26)))

def impl_Sign_mirrored.e (k : Nat) : Refl.Ent G := ⟨47, [(.agg gL1)], .one (.agg gL1), fun x => impl_Sign_mirrored.f x.1 x.2.1 x.2.2.1 x.2.2.2.1 x.2.2.2.2.1 x.2.2.2.2.2.1 x.2.2.2.2.2.2.1 x.2.2.2.2.2.2.2.1 x.2.2.2.2.2.2.2.2.1 x.2.2.2.2.2.2.2.2.2.1 x.2.2.2.2.2.2.2.2.2.2.1 x.2.2.2.2.2.2.2.2.2.2.2.1 x.2.2.2.2.2.2.2.2.2.2.2.2.1 x.2.2.2.2.2.2.2.2.2.2.2.2.2.1 x.2.2.2.2.2.2.2.2.2.2.2.2.2.2.1 x.2.2.2.2.2.2.2.2.2.2.2.2.2.2.2.1 x.2.2.2.2.2.2.2.2.2.2.2.2.2.2.2.2.1 x.2.2.2.2.2.2.2.2.2.2.2.2.2.2.2.2.2.1 x.2.2.2.2.2.2.2.2.2.2.2.2.2.2.2.2.2.2.1 x.2.2.2.2.2.2.2.2.2.2.2.2.2.2.2.2.2.2.2.1 x.2.2.2.2.2.2.2.2.2.2.2.2.2.2.2.2.2.2.2.2.1 x.2.2.2.2.2.2.2.2.2.2.2.2.2.2.2.2.2.2.2.2.2.1 x.2.2.2.2.2.2.2.2.2.2.2.2.2.2.2.2.2.2.2.2.2.2.1 x.2.2.2.2.2.2.2.2.2.2.2.2.2.2.2.2.2.2.2.2.2.2.2.1 x.2.2.2.2.2.2.2.2.2.2.2.2.2.2.2.2.2.2.2.2.2.2.2.2.1 x.2.2.2.2.2.2.2.2.2.2.2.2.2.2.2.2.2.2.2.2.2.2.2.2.2.1 x.2.2.2.2.2.2.2.2.2.2.2.2.2.2.2.2.2.2.2.2.2.2.2.2.2.2⟩
theorem impl_Sign_mirrored.ok (k : Nat) : Refl.EntOK Tryz.prog (impl_Sign_mirrored.e k) := Refl.ent_ok 1000000 k GC (fun k => [impl_Hand_mirrored.e k]) (fun k => ⟨impl_Hand_mirrored.ok k, trivial⟩) Tryz.func47 (by kernel_rfl) [] (ps := []) (by kernel_rfl) trivial (fun x => by kernel_rfl)

/-! ### impl_MirrorsItself: function 19 -/

def impl_MirrorsItself.f (k : Nat) (a0_0 : Int) (a0_1 : Int) (a0_2 : Int) (a0_3 : Int) (a0_4 : Int) (a0_5 : Bool) (a0_6 : Int) (a0_7 : Int) (a0_8 : Int) (a0_9 : Int) (a0_10 : Bool) (a0_11 : ByteArray) (a0_12 : Int) (a0_13 : Bool) (a0_14 : Int) (a0_15 : Int) (a0_16 : Int) (a0_17 : Int) (a0_18 : Int) (a0_19 : Bool) (a0_20 : Int) (a0_21 : Int) (a0_22 : Int) (a0_23 : Int) (a0_24 : Bool) (a0_25 : ByteArray) (a0_26 : Int) : Option (Bool × Bool) := (impl_IsSign.f k a0_0 a0_1 a0_2 a0_3 a0_4 a0_5 a0_6 a0_7 a0_8 a0_9 a0_10 a0_11 a0_12 a0_13 a0_14 a0_15 a0_16 a0_17 a0_18 a0_19 a0_20 a0_21 a0_22 a0_23 a0_24 a0_25 a0_26).bind fun t804 => (if t804 = true then ((impl_Sign_normal.f k a0_0 a0_1 a0_2 a0_3 a0_4 a0_5 a0_6 a0_7 a0_8 a0_9 a0_10 a0_11 a0_12 a0_13 a0_14 a0_15 a0_16 a0_17 a0_18 a0_19 a0_20 a0_21 a0_22 a0_23 a0_24 a0_25 a0_26).bind fun bt805 => ((impl_Sign_mirrored.f a0_0 a0_1 a0_2 a0_3 a0_4 a0_5 a0_6 a0_7 a0_8 a0_9 a0_10 a0_11 a0_12 a0_13 a0_14 a0_15 a0_16 a0_17 a0_18 a0_19 a0_20 a0_21 a0_22 a0_23 a0_24 a0_25 a0_26).bind fun bt832 => ((impl_Sign_normal.f k bt832.1 bt832.2.1 bt832.2.2.1 bt832.2.2.2.1 bt832.2.2.2.2.1 bt832.2.2.2.2.2.1 bt832.2.2.2.2.2.2.1 bt832.2.2.2.2.2.2.2.1 bt832.2.2.2.2.2.2.2.2.1 bt832.2.2.2.2.2.2.2.2.2.1 bt832.2.2.2.2.2.2.2.2.2.2.1 bt832.2.2.2.2.2.2.2.2.2.2.2.1 bt832.2.2.2.2.2.2.2.2.2.2.2.2.1 bt832.2.2.2.2.2.2.2.2.2.2.2.2.2.1 bt832.2.2.2.2.2.2.2.2.2.2.2.2.2.2.1 bt832.2.2.2.2.2.2.2.2.2.2.2.2.2.2.2.1 bt832.2.2.2.2.2.2.2.2.2.2.2.2.2.2.2.2.1 bt832.2.2.2.2.2.2.2.2.2.2.2.2.2.2.2.2.2.1 bt832.2.2.2.2.2.2.2.2.2.2.2.2.2.2.2.2.2.2.1 bt832.2.2.2.2.2.2.2.2.2.2.2.2.2.2.2.2.2.2.2.1 bt832.2.2.2.2.2.2.2.2.2.2.2.2.2.2.2.2.2.2.2.2.1 bt832.2.2.2.2.2.2.2.2.2.2.2.2.2.2.2.2.2.2.2.2.2.1 bt832.2.2.2.2.2.2.2.2.2.2.2.2.2.2.2.2.2.2.2.2.2.2.1 bt832.2.2.2.2.2.2.2.2.2.2.2.2.2.2.2.2.2.2.2.2.2.2.2.1 bt832.2.2.2.2.2.2.2.2.2.2.2.2.2.2.2.2.2.2.2.2.2.2.2.2.1 bt832.2.2.2.2.2.2.2.2.2.2.2.2.2.2.2.2.2.2.2.2.2.2.2.2.2.1 bt832.2.2.2.2.2.2.2.2.2.2.2.2.2.2.2.2.2.2.2.2.2.2.2.2.2.2).bind fun bt859 => (some ((((bt805.1 == bt859.1 && (bt805.2.1 == bt859.2.1 && (bt805.2.2.1 == bt859.2.2.1 && (bt805.2.2.2.1 == bt859.2.2.2.1 && (bt805.2.2.2.2.1 == bt859.2.2.2.2.1 && (bt805.2.2.2.2.2.1 == bt859.2.2.2.2.2.1)))))) && ((bt805.2.2.2.2.2.2.1 == bt859.2.2.2.2.2.2.1 && (bt805.2.2.2.2.2.2.2.1 == bt859.2.2.2.2.2.2.2.1)) && ((bt805.2.2.2.2.2.2.2.2.1 == bt859.2.2.2.2.2.2.2.2.1 && (bt805.2.2.2.2.2.2.2.2.2.1 == bt859.2.2.2.2.2.2.2.2.2.1 && (bt805.2.2.2.2.2.2.2.2.2.2.1 == bt859.2.2.2.2.2.2.2.2.2.2.1))) && ((bt805.2.2.2.2.2.2.2.2.2.2.2.1.toList == bt859.2.2.2.2.2.2.2.2.2.2.2.1.toList && (bt805.2.2.2.2.2.2.2.2.2.2.2.2.1 == bt859.2.2.2.2.2.2.2.2.2.2.2.2.1)))))) && (bt805.2.2.2.2.2.2.2.2.2.2.2.2.2.1 == bt859.2.2.2.2.2.2.2.2.2.2.2.2.2.1 && (((bt805.2.2.2.2.2.2.2.2.2.2.2.2.2.2.1 == bt859.2.2.2.2.2.2.2.2.2.2.2.2.2.2.1 && (bt805.2.2.2.2.2.2.2.2.2.2.2.2.2.2.2.1 == bt859.2.2.2.2.2.2.2.2.2.2.2.2.2.2.2.1 && (bt805.2.2.2.2.2.2.2.2.2.2.2.2.2.2.2.2.1 == bt859.2.2.2.2.2.2.2.2.2.2.2.2.2.2.2.2.1 && (bt805.2.2.2.2.2.2.2.2.2.2.2.2.2.2.2.2.2.1 == bt859.2.2.2.2.2.2.2.2.2.2.2.2.2.2.2.2.2.1 && (bt805.2.2.2.2.2.2.2.2.2.2.2.2.2.2.2.2.2.2.1 == bt859.2.2.2.2.2.2.2.2.2.2.2.2.2.2.2.2.2.2.1 && (bt805.2.2.2.2.2.2.2.2.2.2.2.2.2.2.2.2.2.2.2.1 == bt859.2.2.2.2.2.2.2.2.2.2.2.2.2.2.2.2.2.2.2.1)))))) && ((bt805.2.2.2.2.2.2.2.2.2.2.2.2.2.2.2.2.2.2.2.2.1 == bt859.2.2.2.2.2.2.2.2.2.2.2.2.2.2.2.2.2.2.2.2.1 && (bt805.2.2.2.2.2.2.2.2.2.2.2.2.2.2.2.2.2.2.2.2.2.1 == bt859.2.2.2.2.2.2.2.2.2.2.2.2.2.2.2.2.2.2.2.2.2.1)) && ((bt805.2.2.2.2.2.2.2.2.2.2.2.2.2.2.2.2.2.2.2.2.2.2.1 == bt859.2.2.2.2.2.2.2.2.2.2.2.2.2.2.2.2.2.2.2.2.2.2.1 && (bt805.2.2.2.2.2.2.2.2.2.2.2.2.2.2.2.2.2.2.2.2.2.2.2.1 == bt859.2.2.2.2.2.2.2.2.2.2.2.2.2.2.2.2.2.2.2.2.2.2.2.1 && (bt805.2.2.2.2.2.2.2.2.2.2.2.2.2.2.2.2.2.2.2.2.2.2.2.2.1 == bt859.2.2.2.2.2.2.2.2.2.2.2.2.2.2.2.2.2.2.2.2.2.2.2.2.1))) && ((bt805.2.2.2.2.2.2.2.2.2.2.2.2.2.2.2.2.2.2.2.2.2.2.2.2.2.1.toList == bt859.2.2.2.2.2.2.2.2.2.2.2.2.2.2.2.2.2.2.2.2.2.2.2.2.2.1.toList && (bt805.2.2.2.2.2.2.2.2.2.2.2.2.2.2.2.2.2.2.2.2.2.2.2.2.2.2 == bt859.2.2.2.2.2.2.2.2.2.2.2.2.2.2.2.2.2.2.2.2.2.2.2.2.2.2))))))))), true))))) else (some (false, false)))

theorem impl_MirrorsItself.mono : ∀ a0 a1 a2 a3 a4 a5 a6 a7 a8 a9 a10 a11 a12 a13 a14 a15 a16 a17 a18 a19 a20 a21 a22 a23 a24 a25 a26 k, LeO (impl_MirrorsItself.f k a0 a1 a2 a3 a4 a5 a6 a7 a8 a9 a10 a11 a12 a13 a14 a15 a16 a17 a18 a19 a20 a21 a22 a23 a24 a25 a26) (impl_MirrorsItself.f (k + 1) a0 a1 a2 a3 a4 a5 a6 a7 a8 a9 a10 a11 a12 a13 a14 a15 a16 a17 a18 a19 a20 a21 a22 a23 a24 a25 a26) := by
  intro a0 a1 a2 a3 a4 a5 a6 a7 a8 a9 a10 a11 a12 a13 a14 a15 a16 a17 a18 a19 a20 a21 a22 a23 a24 a25 a26 k
  unfold impl_MirrorsItself.f
  repeat' first
      | (with_reducible exact impl_IsSign.mono _ _ _ _ _ _ _ _ _ _ _ _ _ _ _ _ _ _ _ _ _ _ _ _ _ _ _ _)
      | (with_reducible exact impl_Sign_normal.mono _ _ _ _ _ _ _ _ _ _ _ _ _ _ _ _ _ _ _ _ _ _ _ _ _ _ _ _)
      | (with_reducible exact LeO.refl _)
      | (with_reducible exact LeO.none _)
      | (with_reducible refine LeO.ite ?_ ?_)
      | (with_reducible refine LeO.bind ?_ (fun _ => ?_))
      | exact impl_IsSign.mono _ _ _ _ _ _ _ _ _ _ _ _ _ _ _ _ _ _ _ _ _ _ _ _ _ _ _ _
      | exact impl_Sign_normal.mono _ _ _ _ _ _ _ _ _ _ _ _ _ _ _ _ _ _ _ _ _ _ _ _ _ _ _ _
      | exact LeO.none _
      | refine LeO.ite ?_ ?_
      | refine LeO.bind ?_ (fun _ => ?_)

def impl_MirrorsItself.e (k : Nat) : Refl.Ent G := ⟨19, [(.agg gL1)], .tup [(.c .bool), (.c .bool)], fun x => impl_MirrorsItself.f k x.1 x.2.1 x.2.2.1 x.2.2.2.1 x.2.2.2.2.1 x.2.2.2.2.2.1 x.2.2.2.2.2.2.1 x.2.2.2.2.2.2.2.1 x.2.2.2.2.2.2.2.2.1 x.2.2.2.2.2.2.2.2.2.1 x.2.2.2.2.2.2.2.2.2.2.1 x.2.2.2.2.2.2.2.2.2.2.2.1 x.2.2.2.2.2.2.2.2.2.2.2.2.1 x.2.2.2.2.2.2.2.2.2.2.2.2.2.1 x.2.2.2.2.2.2.2.2.2.2.2.2.2.2.1 x.2.2.2.2.2.2.2.2.2.2.2.2.2.2.2.1 x.2.2.2.2.2.2.2.2.2.2.2.2.2.2.2.2.1 x.2.2.2.2.2.2.2.2.2.2.2.2.2.2.2.2.2.1 x.2.2.2.2.2.2.2.2.2.2.2.2.2.2.2.2.2.2.1 x.2.2.2.2.2.2.2.2.2.2.2.2.2.2.2.2.2.2.2.1 x.2.2.2.2.2.2.2.2.2.2.2.2.2.2.2.2.2.2.2.2.1 x.2.2.2.2.2.2.2.2.2.2.2.2.2.2.2.2.2.2.2.2.2.1 x.2.2.2.2.2.2.2.2.2.2.2.2.2.2.2.2.2.2.2.2.2.2.1 x.2.2.2.2.2.2.2.2.2.2.2.2.2.2.2.2.2.2.2.2.2.2.2.1 x.2.2.2.2.2.2.2.2.2.2.2.2.2.2.2.2.2.2.2.2.2.2.2.2.1 x.2.2.2.2.2.2.2.2.2.2.2.2.2.2.2.2.2.2.2.2.2.2.2.2.2.1 x.2.2.2.2.2.2.2.2.2.2.2.2.2.2.2.2.2.2.2.2.2.2.2.2.2.2⟩
theorem impl_MirrorsItself.ok (k : Nat) : Refl.EntOK Tryz.prog (impl_MirrorsItself.e k) := Refl.ent_ok 1000000 k GC (fun k => [impl_IsSign.e k, impl_Sign_normal.e k, impl_Sign_mirrored.e k]) (fun k => ⟨impl_IsSign.ok k, impl_Sign_normal.ok k, impl_Sign_mirrored.ok k, trivial⟩) Tryz.func19 (by kernel_rfl) [] (ps := []) (by kernel_rfl) trivial (fun x => by kernel_rfl)

/-! ### laws_FnExactMirrorsItself: function 5 -/

def laws_FnExactMirrorsItself.f (k : Nat) (a0_0 : Int) (a0_1 : Int) (a0_2 : Int) (a0_3 : Int) (a0_4 : Int) (a0_5 : Bool) (a0_6 : Int) (a0_7 : Int) (a0_8 : Int) (a0_9 : Int) (a0_10 : Bool) (a0_11 : ByteArray) (a0_12 : Int) (a0_13 : Bool) (a0_14 : Int) (a0_15 : Int) (a0_16 : Int) (a0_17 : Int) (a0_18 : Int) (a0_19 : Bool) (a0_20 : Int) (a0_21 : Int) (a0_22 : Int) (a0_23 : Int) (a0_24 : Bool) (a0_25 : ByteArray) (a0_26 : Int) : Option (Bool) := (laws_szSign.f a0_0 a0_1 a0_2 a0_3 a0_4 a0_5 a0_6 a0_7 a0_8 a0_9 a0_10 a0_11 a0_12 a0_13 a0_14 a0_15 a0_16 a0_17 a0_18 a0_19 a0_20 a0_21 a0_22 a0_23 a0_24 a0_25 a0_26 1048576).bind fun t887 => (if t887 < 0 then (some true) else ((laws_toSign.f a0_0 a0_1 a0_2 a0_3 a0_4 a0_5 a0_6 a0_7 a0_8 a0_9 a0_10 a0_11 a0_12 a0_13 a0_14 a0_15 a0_16 a0_17 a0_18 a0_19 a0_20 a0_21 a0_22 a0_23 a0_24 a0_25 a0_26).bind fun bt888 => ((spec_MirrorsItself.f k bt888.1 bt888.2.1 bt888.2.2.1 bt888.2.2.2.1 bt888.2.2.2.2.1 bt888.2.2.2.2.2.1 bt888.2.2.2.2.2.2.1 bt888.2.2.2.2.2.2.2.1 bt888.2.2.2.2.2.2.2.2.1 bt888.2.2.2.2.2.2.2.2.2.1 bt888.2.2.2.2.2.2.2.2.2.2.1 bt888.2.2.2.2.2.2.2.2.2.2.2.1 bt888.2.2.2.2.2.2.2.2.2.2.2.2.1 bt888.2.2.2.2.2.2.2.2.2.2.2.2.2.1 bt888.2.2.2.2.2.2.2.2.2.2.2.2.2.2.1 bt888.2.2.2.2.2.2.2.2.2.2.2.2.2.2.2.1 bt888.2.2.2.2.2.2.2.2.2.2.2.2.2.2.2.2.1 bt888.2.2.2.2.2.2.2.2.2.2.2.2.2.2.2.2.2.1 bt888.2.2.2.2.2.2.2.2.2.2.2.2.2.2.2.2.2.2.1 bt888.2.2.2.2.2.2.2.2.2.2.2.2.2.2.2.2.2.2.2.1 bt888.2.2.2.2.2.2.2.2.2.2.2.2.2.2.2.2.2.2.2.2.1 bt888.2.2.2.2.2.2.2.2.2.2.2.2.2.2.2.2.2.2.2.2.2.1 bt888.2.2.2.2.2.2.2.2.2.2.2.2.2.2.2.2.2.2.2.2.2.2.1 bt888.2.2.2.2.2.2.2.2.2.2.2.2.2.2.2.2.2.2.2.2.2.2.2.1 bt888.2.2.2.2.2.2.2.2.2.2.2.2.2.2.2.2.2.2.2.2.2.2.2.2.1 bt888.2.2.2.2.2.2.2.2.2.2.2.2.2.2.2.2.2.2.2.2.2.2.2.2.2.1 bt888.2.2.2.2.2.2.2.2.2.2.2.2.2.2.2.2.2.2.2.2.2.2.2.2.2.2).bind fun bt915 => ((laws_toSign.f a0_0 a0_1 a0_2 a0_3 a0_4 a0_5 a0_6 a0_7 a0_8 a0_9 a0_10 a0_11 a0_12 a0_13 a0_14 a0_15 a0_16 a0_17 a0_18 a0_19 a0_20 a0_21 a0_22 a0_23 a0_24 a0_25 a0_26).bind fun bt917 => ((impl_MirrorsItself.f k bt917.1 bt917.2.1 bt917.2.2.1 bt917.2.2.2.1 bt917.2.2.2.2.1 bt917.2.2.2.2.2.1 bt917.2.2.2.2.2.2.1 bt917.2.2.2.2.2.2.2.1 bt917.2.2.2.2.2.2.2.2.1 bt917.2.2.2.2.2.2.2.2.2.1 bt917.2.2.2.2.2.2.2.2.2.2.1 bt917.2.2.2.2.2.2.2.2.2.2.2.1 bt917.2.2.2.2.2.2.2.2.2.2.2.2.1 bt917.2.2.2.2.2.2.2.2.2.2.2.2.2.1 bt917.2.2.2.2.2.2.2.2.2.2.2.2.2.2.1 bt917.2.2.2.2.2.2.2.2.2.2.2.2.2.2.2.1 bt917.2.2.2.2.2.2.2.2.2.2.2.2.2.2.2.2.1 bt917.2.2.2.2.2.2.2.2.2.2.2.2.2.2.2.2.2.1 bt917.2.2.2.2.2.2.2.2.2.2.2.2.2.2.2.2.2.2.1 bt917.2.2.2.2.2.2.2.2.2.2.2.2.2.2.2.2.2.2.2.1 bt917.2.2.2.2.2.2.2.2.2.2.2.2.2.2.2.2.2.2.2.2.1 bt917.2.2.2.2.2.2.2.2.2.2.2.2.2.2.2.2.2.2.2.2.2.1 bt917.2.2.2.2.2.2.2.2.2.2.2.2.2.2.2.2.2.2.2.2.2.2.1 bt917.2.2.2.2.2.2.2.2.2.2.2.2.2.2.2.2.2.2.2.2.2.2.2.1 bt917.2.2.2.2.2.2.2.2.2.2.2.2.2.2.2.2.2.2.2.2.2.2.2.2.1 bt917.2.2.2.2.2.2.2.2.2.2.2.2.2.2.2.2.2.2.2.2.2.2.2.2.2.1 bt917.2.2.2.2.2.2.2.2.2.2.2.2.2.2.2.2.2.2.2.2.2.2.2.2.2.2).bind fun bt944 => (if ((bt944.1 == bt915.1) = true) then (if ((bt944.2 == bt915.2) = true) then (some true) else (some false)) else (some false)))))))

theorem laws_FnExactMirrorsItself.mono : ∀ a0 a1 a2 a3 a4 a5 a6 a7 a8 a9 a10 a11 a12 a13 a14 a15 a16 a17 a18 a19 a20 a21 a22 a23 a24 a25 a26 k, LeO (laws_FnExactMirrorsItself.f k a0 a1 a2 a3 a4 a5 a6 a7 a8 a9 a10 a11 a12 a13 a14 a15 a16 a17 a18 a19 a20 a21 a22 a23 a24 a25 a26) (laws_FnExactMirrorsItself.f (k + 1) a0 a1 a2 a3 a4 a5 a6 a7 a8 a9 a10 a11 a12 a13 a14 a15 a16 a17 a18 a19 a20 a21 a22 a23 a24 a25 a26) := by
  intro a0 a1 a2 a3 a4 a5 a6 a7 a8 a9 a10 a11 a12 a13 a14 a15 a16 a17 a18 a19 a20 a21 a22 a23 a24 a25 a26 k
  unfold laws_FnExactMirrorsItself.f
  repeat' first
      | (with_reducible exact impl_MirrorsItself.mono _ _ _ _ _ _ _ _ _ _ _ _ _ _ _ _ _ _ _ _ _ _ _ _ _ _ _ _)
      | (with_reducible exact spec_MirrorsItself.mono _ _ _ _ _ _ _ _ _ _ _ _ _ _ _ _ _ _ _ _ _ _ _ _ _ _ _ _)
      | (with_reducible exact LeO.refl _)
      | (with_reducible exact LeO.none _)
      | (with_reducible refine LeO.ite ?_ ?_)
      | (with_reducible refine LeO.bind ?_ (fun _ => ?_))
      | exact impl_MirrorsItself.mono _ _ _ _ _ _ _ _ _ _ _ _ _ _ _ _ _ _ _ _ _ _ _ _ _ _ _ _
      | exact spec_MirrorsItself.mono _ _ _ _ _ _ _ _ _ _ _ _ _ _ _ _ _ _ _ _ _ _ _ _ _ _ _ _
      | exact LeO.none _
      | refine LeO.ite ?_ ?_
      | refine LeO.bind ?_ (fun _ => ?_)

def laws_FnExactMirrorsItself.e (k : Nat) : Refl.Ent G := ⟨5, [(.agg gL1)], .one (.c .bool), fun x => laws_FnExactMirrorsItself.f k x.1 x.2.1 x.2.2.1 x.2.2.2.1 x.2.2.2.2.1 x.2.2.2.2.2.1 x.2.2.2.2.2.2.1 x.2.2.2.2.2.2.2.1 x.2.2.2.2.2.2.2.2.1 x.2.2.2.2.2.2.2.2.2.1 x.2.2.2.2.2.2.2.2.2.2.1 x.2.2.2.2.2.2.2.2.2.2.2.1 x.2.2.2.2.2.2.2.2.2.2.2.2.1 x.2.2.2.2.2.2.2.2.2.2.2.2.2.1 x.2.2.2.2.2.2.2.2.2.2.2.2.2.2.1 x.2.2.2.2.2.2.2.2.2.2.2.2.2.2.2.1 x.2.2.2.2.2.2.2.2.2.2.2.2.2.2.2.2.1 x.2.2.2.2.2.2.2.2.2.2.2.2.2.2.2.2.2.1 x.2.2.2.2.2.2.2.2.2.2.2.2.2.2.2.2.2.2.1 x.2.2.2.2.2.2.2.2.2.2.2.2.2.2.2.2.2.2.2.1 x.2.2.2.2.2.2.2.2.2.2.2.2.2.2.2.2.2.2.2.2.1 x.2.2.2.2.2.2.2.2.2.2.2.2.2.2.2.2.2.2.2.2.2.1 x.2.2.2.2.2.2.2.2.2.2.2.2.2.2.2.2.2.2.2.2.2.2.1 x.2.2.2.2.2.2.2.2.2.2.2.2.2.2.2.2.2.2.2.2.2.2.2.1 x.2.2.2.2.2.2.2.2.2.2.2.2.2.2.2.2.2.2.2.2.2.2.2.2.1 x.2.2.2.2.2.2.2.2.2.2.2.2.2.2.2.2.2.2.2.2.2.2.2.2.2.1 x.2.2.2.2.2.2.2.2.2.2.2.2.2.2.2.2.2.2.2.2.2.2.2.2.2.2⟩
theorem laws_FnExactMirrorsItself.ok (k : Nat) : Refl.EntOK Tryz.prog (laws_FnExactMirrorsItself.e k) := Refl.ent_ok 1000000 k GC (fun k => [laws_szSign.e k, laws_toSign.e k, spec_MirrorsItself.e k, impl_MirrorsItself.e k]) (fun k => ⟨laws_szSign.ok k, laws_toSign.ok k, spec_MirrorsItself.ok k, impl_MirrorsItself.ok k, trivial⟩) Tryz.func5 (by kernel_rfl) [] (ps := []) (by kernel_rfl) trivial (fun x => by kernel_rfl)

theorem laws_FnExactMirrorsItself.calls (k : Nat) (a0_0 : Int) (a0_1 : Int) (a0_2 : Int) (a0_3 : Int) (a0_4 : Int) (a0_5 : Bool) (a0_6 : Int) (a0_7 : Int) (a0_8 : Int) (a0_9 : Int) (a0_10 : Bool) (a0_11 : ByteArray) (a0_12 : Int) (a0_13 : Bool) (a0_14 : Int) (a0_15 : Int) (a0_16 : Int) (a0_17 : Int) (a0_18 : Int) (a0_19 : Bool) (a0_20 : Int) (a0_21 : Int) (a0_22 : Int) (a0_23 : Int) (a0_24 : Bool) (a0_25 : ByteArray) (a0_26 : Int) (r : Bool) (w : World) (h : laws_FnExactMirrorsItself.f k a0_0 a0_1 a0_2 a0_3 a0_4 a0_5 a0_6 a0_7 a0_8 a0_9 a0_10 a0_11 a0_12 a0_13 a0_14 a0_15 a0_16 a0_17 a0_18 a0_19 a0_20 a0_21 a0_22 a0_23 a0_24 a0_25 a0_26 = some r) :
    Calls Tryz.prog 5 #[.agg #[.int .i64 a0_0, .int .i64 a0_1, .int .i64 a0_2, .int .i64 a0_3, .int .i64 a0_4, .bool a0_5, .int .i64 a0_6, .int .i64 a0_7, .int .i64 a0_8, .int .i64 a0_9, .bool a0_10, .string a0_11, .int .i64 a0_12, .bool a0_13, .int .i64 a0_14, .int .i64 a0_15, .int .i64 a0_16, .int .i64 a0_17, .int .i64 a0_18, .bool a0_19, .int .i64 a0_20, .int .i64 a0_21, .int .i64 a0_22, .int .i64 a0_23, .bool a0_24, .string a0_25, .int .i64 a0_26]] w fun e w' => e = .returned (.bool r) ∧ Below w.heap.size w w' :=
 Refl.EntOK.flat (laws_FnExactMirrorsItself.ok k) (a0_0, a0_1, a0_2, a0_3, a0_4, a0_5, a0_6, a0_7, a0_8, a0_9, a0_10, a0_11, a0_12, a0_13, a0_14, a0_15, a0_16, a0_17, a0_18, a0_19, a0_20, a0_21, a0_22, a0_23, a0_24, a0_25, a0_26) r h (by kernel_rfl) (by kernel_rfl) (by kernel_rfl) (by kernel_rfl) w

end Go.Proofs.YtojfncpjgpklhaaGreatDoor.PA
