-- Written by a program of this session (wip/tools/myprint.py). Not trusted: Lean checks it.
import Derived.Test.YtcicpmhcmlfhbaaGreatDoorCtx
import Derived.Test.YtcicpmhcmlfhbaaGreatDoorPAx1
import Derived.Test.YtcicpmhcmlfhbaaGreatDoorPAx4
import Derived.Test.YtcicpmhcmlfhbaaGreatDoorPAx5
namespace Go.Proofs.YtcicpmhcmlfhbaaGreatDoor.PA
open Go.RowKit Go.Proofs.YtcicpmhcmlfhbaaGreatDoorW.PrintWords Go.Proofs.YtcicpmhcmlfhbaaGreatDoorW.PrintLast Go.Proofs.YtcicpmhcmlfhbaaGreatDoorW.PrintMore
attribute [local go_sem] max2_int min2_int max_two min_two max_three min_three max_four min_four   -- for this text's walks alone
set_option linter.unusedVariables false
set_option linter.unusedSimpArgs false

attribute [local go_sem high] eqA23
/-! ### spec_ruBroken: function 71 -/

def spec_ruBroken.l0 : Nat → List Int → List (S112) → Int → Int → Int → Int → Int → Int → Int → Bool → Int → Int → Int → Int → Bool → ByteArray → Int → Bool → Int → Int → Int → Int → Int → Bool → Int → Int → Int → Int → Bool → ByteArray → Int → Option (List Int)
  | 0, _, _, _, _, _, _, _, _, _, _, _, _, _, _, _, _, _, _, _, _, _, _, _, _, _, _, _, _, _, _, _ => none
  | k + 1, x5, x8, x9, x10, x233000, x233001, x233002, x233003, x233004, x233005, x233006, x233007, x233008, x233009, x233010, x233011, x233012, x233013, x233014, x233015, x233016, x233017, x233018, x233019, x233020, x233021, x233022, x233023, x233024, x233025, x233026 => if x10 < x9 then (if 0 ≤ x10 then (if x10 < (x8.length : Int) then ((spec_ruKeeps.f k x233000 x233001 x233002 x233003 x233004 x233005 x233006 x233007 x233008 x233009 x233010 x233011 x233012 x233013 x233014 x233015 x233016 x233017 x233018 x233019 x233020 x233021 x233022 x233023 x233024 x233025 x233026 ((rd_T112 x8 x10).f0) ((rd_T112 x8 x10).f1)).bind fun t235 => (if t235 = true then (spec_ruBroken.l0 k x5 x8 x9 (wrap64 (x10 + 1)) x233000 x233001 x233002 x233003 x233004 x233005 x233006 x233007 x233008 x233009 x233010 x233011 x233012 x233013 x233014 x233015 x233016 x233017 x233018 x233019 x233020 x233021 x233022 x233023 x233024 x233025 x233026) else (if x5.length < 17592186044416 then (spec_ruBroken.l0 k (x5 ++ [x10]) x8 x9 (wrap64 (x10 + 1)) x233000 x233001 x233002 x233003 x233004 x233005 x233006 x233007 x233008 x233009 x233010 x233011 x233012 x233013 x233014 x233015 x233016 x233017 x233018 x233019 x233020 x233021 x233022 x233023 x233024 x233025 x233026) else (none)))) else (none)) else (none)) else (some x5)

def spec_ruBroken.f (k : Nat) (a0_0 : Int) (a0_1 : Int) (a0_2 : Int) (a0_3 : Int) (a0_4 : Int) (a0_5 : Bool) (a0_6 : Int) (a0_7 : Int) (a0_8 : Int) (a0_9 : Int) (a0_10 : Bool) (a0_11 : ByteArray) (a0_12 : Int) (a0_13 : Bool) (a0_14 : Int) (a0_15 : Int) (a0_16 : Int) (a0_17 : Int) (a0_18 : Int) (a0_19 : Bool) (a0_20 : Int) (a0_21 : Int) (a0_22 : Int) (a0_23 : Int) (a0_24 : Bool) (a0_25 : ByteArray) (a0_26 : Int) (l1 : List (S112)) : Option (List Int) := spec_ruBroken.l0 k ([] : List Int) l1 (l1.length : Int) 0 a0_0 a0_1 a0_2 a0_3 a0_4 a0_5 a0_6 a0_7 a0_8 a0_9 a0_10 a0_11 a0_12 a0_13 a0_14 a0_15 a0_16 a0_17 a0_18 a0_19 a0_20 a0_21 a0_22 a0_23 a0_24 a0_25 a0_26

theorem spec_ruBroken.mono_l : ∀ k, (∀ y0 y1 y2 y3 y4 y5 y6 y7 y8 y9 y10 y11 y12 y13 y14 y15 y16 y17 y18 y19 y20 y21 y22 y23 y24 y25 y26 y27 y28 y29 y30, LeO (spec_ruBroken.l0 k y0 y1 y2 y3 y4 y5 y6 y7 y8 y9 y10 y11 y12 y13 y14 y15 y16 y17 y18 y19 y20 y21 y22 y23 y24 y25 y26 y27 y28 y29 y30) (spec_ruBroken.l0 (k + 1) y0 y1 y2 y3 y4 y5 y6 y7 y8 y9 y10 y11 y12 y13 y14 y15 y16 y17 y18 y19 y20 y21 y22 y23 y24 y25 y26 y27 y28 y29 y30))
  | 0 => fun _ _ _ _ _ _ _ _ _ _ _ _ _ _ _ _ _ _ _ _ _ _ _ _ _ _ _ _ _ _ _ r h => by simp [spec_ruBroken.l0] at h
  | k + 1 => by
    have ih0 := spec_ruBroken.mono_l k
    · intro y0 y1 y2 y3 y4 y5 y6 y7 y8 y9 y10 y11 y12 y13 y14 y15 y16 y17 y18 y19 y20 y21 y22 y23 y24 y25 y26 y27 y28 y29 y30
      unfold spec_ruBroken.l0
      repeat' first
      | (with_reducible exact ih0 _ _ _ _ _ _ _ _ _ _ _ _ _ _ _ _ _ _ _ _ _ _ _ _ _ _ _ _ _ _ _)
      | (with_reducible exact spec_ruKeeps.mono _ _ _ _ _ _ _ _ _ _ _ _ _ _ _ _ _ _ _ _ _ _ _ _ _ _ _ _ _ _)
      | (with_reducible exact LeO.refl _)
      | (with_reducible exact LeO.none _)
      | (with_reducible refine LeO.ite ?_ ?_)
      | (with_reducible refine LeO.bind ?_ (fun _ => ?_))
      | exact ih0 _ _ _ _ _ _ _ _ _ _ _ _ _ _ _ _ _ _ _ _ _ _ _ _ _ _ _ _ _ _ _
      | exact spec_ruKeeps.mono _ _ _ _ _ _ _ _ _ _ _ _ _ _ _ _ _ _ _ _ _ _ _ _ _ _ _ _ _ _
      | exact LeO.none _
      | refine LeO.ite ?_ ?_
      | refine LeO.bind ?_ (fun _ => ?_)

theorem spec_ruBroken.mono : ∀ a0 a1 a2 a3 a4 a5 a6 a7 a8 a9 a10 a11 a12 a13 a14 a15 a16 a17 a18 a19 a20 a21 a22 a23 a24 a25 a26 a27 k, LeO (spec_ruBroken.f k a0 a1 a2 a3 a4 a5 a6 a7 a8 a9 a10 a11 a12 a13 a14 a15 a16 a17 a18 a19 a20 a21 a22 a23 a24 a25 a26 a27) (spec_ruBroken.f (k + 1) a0 a1 a2 a3 a4 a5 a6 a7 a8 a9 a10 a11 a12 a13 a14 a15 a16 a17 a18 a19 a20 a21 a22 a23 a24 a25 a26 a27) := by
  intro a0 a1 a2 a3 a4 a5 a6 a7 a8 a9 a10 a11 a12 a13 a14 a15 a16 a17 a18 a19 a20 a21 a22 a23 a24 a25 a26 a27 k
  have ih0 := spec_ruBroken.mono_l k
  unfold spec_ruBroken.f
  repeat' first
      | (with_reducible exact ih0 _ _ _ _ _ _ _ _ _ _ _ _ _ _ _ _ _ _ _ _ _ _ _ _ _ _ _ _ _ _ _)
      | (with_reducible exact spec_ruKeeps.mono _ _ _ _ _ _ _ _ _ _ _ _ _ _ _ _ _ _ _ _ _ _ _ _ _ _ _ _ _ _)
      | (with_reducible exact LeO.refl _)
      | (with_reducible exact LeO.none _)
      | (with_reducible refine LeO.ite ?_ ?_)
      | (with_reducible refine LeO.bind ?_ (fun _ => ?_))
      | exact ih0 _ _ _ _ _ _ _ _ _ _ _ _ _ _ _ _ _ _ _ _ _ _ _ _ _ _ _ _ _ _ _
      | exact spec_ruKeeps.mono _ _ _ _ _ _ _ _ _ _ _ _ _ _ _ _ _ _ _ _ _ _ _ _ _ _ _ _ _ _
      | exact LeO.none _
      | refine LeO.ite ?_ ?_
      | refine LeO.bind ?_ (fun _ => ?_)

def spec_ruBroken.e (k : Nat) : Refl.Ent G := ⟨71, [(.agg gL3), (.c (.row 112 false))], .one (.c (.own 3)), fun x => spec_ruBroken.f k x.1 x.2.1 x.2.2.1 x.2.2.2.1 x.2.2.2.2.1 x.2.2.2.2.2.1 x.2.2.2.2.2.2.1 x.2.2.2.2.2.2.2.1 x.2.2.2.2.2.2.2.2.1 x.2.2.2.2.2.2.2.2.2.1 x.2.2.2.2.2.2.2.2.2.2.1 x.2.2.2.2.2.2.2.2.2.2.2.1 x.2.2.2.2.2.2.2.2.2.2.2.2.1 x.2.2.2.2.2.2.2.2.2.2.2.2.2.1 x.2.2.2.2.2.2.2.2.2.2.2.2.2.2.1 x.2.2.2.2.2.2.2.2.2.2.2.2.2.2.2.1 x.2.2.2.2.2.2.2.2.2.2.2.2.2.2.2.2.1 x.2.2.2.2.2.2.2.2.2.2.2.2.2.2.2.2.2.1 x.2.2.2.2.2.2.2.2.2.2.2.2.2.2.2.2.2.2.1 x.2.2.2.2.2.2.2.2.2.2.2.2.2.2.2.2.2.2.2.1 x.2.2.2.2.2.2.2.2.2.2.2.2.2.2.2.2.2.2.2.2.1 x.2.2.2.2.2.2.2.2.2.2.2.2.2.2.2.2.2.2.2.2.2.1 x.2.2.2.2.2.2.2.2.2.2.2.2.2.2.2.2.2.2.2.2.2.2.1 x.2.2.2.2.2.2.2.2.2.2.2.2.2.2.2.2.2.2.2.2.2.2.2.1 x.2.2.2.2.2.2.2.2.2.2.2.2.2.2.2.2.2.2.2.2.2.2.2.2.1 x.2.2.2.2.2.2.2.2.2.2.2.2.2.2.2.2.2.2.2.2.2.2.2.2.2.1 x.2.2.2.2.2.2.2.2.2.2.2.2.2.2.2.2.2.2.2.2.2.2.2.2.2.2.1 x.2.2.2.2.2.2.2.2.2.2.2.2.2.2.2.2.2.2.2.2.2.2.2.2.2.2.2⟩
def spec_ruBroken.pl0 : Refl.Pn G (Refl.PT G (spec_ruBroken.e 0).ol) := ⟨true, 0, ⟨[(5, .v (.c (.own 3))), (8, .v (.c (.row 112 false))), (9, .v (.c li)), (10, .v (.c li)), (2, .box 2 0)], [(2, 77, gL7)]⟩, fun k x => spec_ruBroken.l0 k x.1 x.2.1 x.2.2.1 x.2.2.2.1 x.2.2.2.2.1 x.2.2.2.2.2.1 x.2.2.2.2.2.2.1 x.2.2.2.2.2.2.2.1 x.2.2.2.2.2.2.2.2.1 x.2.2.2.2.2.2.2.2.2.1 x.2.2.2.2.2.2.2.2.2.2.1 x.2.2.2.2.2.2.2.2.2.2.2.1 x.2.2.2.2.2.2.2.2.2.2.2.2.1 x.2.2.2.2.2.2.2.2.2.2.2.2.2.1 x.2.2.2.2.2.2.2.2.2.2.2.2.2.2.1 x.2.2.2.2.2.2.2.2.2.2.2.2.2.2.2.1 x.2.2.2.2.2.2.2.2.2.2.2.2.2.2.2.2.1 x.2.2.2.2.2.2.2.2.2.2.2.2.2.2.2.2.2.1 x.2.2.2.2.2.2.2.2.2.2.2.2.2.2.2.2.2.2.1 x.2.2.2.2.2.2.2.2.2.2.2.2.2.2.2.2.2.2.2.1 x.2.2.2.2.2.2.2.2.2.2.2.2.2.2.2.2.2.2.2.2.1 x.2.2.2.2.2.2.2.2.2.2.2.2.2.2.2.2.2.2.2.2.2.1 x.2.2.2.2.2.2.2.2.2.2.2.2.2.2.2.2.2.2.2.2.2.2.1 x.2.2.2.2.2.2.2.2.2.2.2.2.2.2.2.2.2.2.2.2.2.2.2.1 x.2.2.2.2.2.2.2.2.2.2.2.2.2.2.2.2.2.2.2.2.2.2.2.2.1 x.2.2.2.2.2.2.2.2.2.2.2.2.2.2.2.2.2.2.2.2.2.2.2.2.2.1 x.2.2.2.2.2.2.2.2.2.2.2.2.2.2.2.2.2.2.2.2.2.2.2.2.2.2.1 x.2.2.2.2.2.2.2.2.2.2.2.2.2.2.2.2.2.2.2.2.2.2.2.2.2.2.2.1 x.2.2.2.2.2.2.2.2.2.2.2.2.2.2.2.2.2.2.2.2.2.2.2.2.2.2.2.2.1 x.2.2.2.2.2.2.2.2.2.2.2.2.2.2.2.2.2.2.2.2.2.2.2.2.2.2.2.2.2.1 x.2.2.2.2.2.2.2.2.2.2.2.2.2.2.2.2.2.2.2.2.2.2.2.2.2.2.2.2.2.2⟩
theorem spec_ruBroken.ok (k : Nat) : Refl.EntOK Tryz.prog (spec_ruBroken.e k) := Refl.ent_ok 1000000 k GC (fun k => [spec_ruKeeps.e k]) (fun k => ⟨spec_ruKeeps.ok k, trivial⟩) Tryz.func71 (by kernel_rfl) [spec_ruBroken.pl0] (ps := [spec_ruBroken.pl0]) (by kernel_rfl) ⟨⟨fun x => by kernel_rfl, fun k x => by kernel_rfl⟩, trivial⟩ (fun x => by kernel_rfl)

/-! ### spec_BrokenBy: function 39 -/

def spec_BrokenBy.f (k : Nat) (a0_0 : Int) (a0_1 : Int) (a0_2 : Int) (a0_3 : Int) (a0_4 : Int) (a0_5 : Bool) (a0_6 : Int) (a0_7 : Int) (a0_8 : Int) (a0_9 : Int) (a0_10 : Bool) (a0_11 : ByteArray) (a0_12 : Int) (a0_13 : Bool) (a0_14 : Int) (a0_15 : Int) (a0_16 : Int) (a0_17 : Int) (a0_18 : Int) (a0_19 : Bool) (a0_20 : Int) (a0_21 : Int) (a0_22 : Int) (a0_23 : Int) (a0_24 : Bool) (a0_25 : ByteArray) (a0_26 : Int) (l1 : List (S112)) : Option (List Int × Bool) := (spec_siGood.f k a0_0 a0_1 a0_2 a0_3 a0_4 a0_5 a0_6 a0_7 a0_8 a0_9 a0_10 a0_11 a0_12 a0_13 a0_14 a0_15 a0_16 a0_17 a0_18 a0_19 a0_20 a0_21 a0_22 a0_23 a0_24 a0_25 a0_26).bind fun t240 => (if t240 = true then ((spec_ruAll.f k l1).bind fun t241 => (if t241 = true then ((spec_ruBroken.f k a0_0 a0_1 a0_2 a0_3 a0_4 a0_5 a0_6 a0_7 a0_8 a0_9 a0_10 a0_11 a0_12 a0_13 a0_14 a0_15 a0_16 a0_17 a0_18 a0_19 a0_20 a0_21 a0_22 a0_23 a0_24 a0_25 a0_26 l1).bind fun t242 => (some (t242, true))) else (some (([] : List Int), false)))) else (some (([] : List Int), false)))

theorem spec_BrokenBy.mono : ∀ a0 a1 a2 a3 a4 a5 a6 a7 a8 a9 a10 a11 a12 a13 a14 a15 a16 a17 a18 a19 a20 a21 a22 a23 a24 a25 a26 a27 k, LeO (spec_BrokenBy.f k a0 a1 a2 a3 a4 a5 a6 a7 a8 a9 a10 a11 a12 a13 a14 a15 a16 a17 a18 a19 a20 a21 a22 a23 a24 a25 a26 a27) (spec_BrokenBy.f (k + 1) a0 a1 a2 a3 a4 a5 a6 a7 a8 a9 a10 a11 a12 a13 a14 a15 a16 a17 a18 a19 a20 a21 a22 a23 a24 a25 a26 a27) := by
  intro a0 a1 a2 a3 a4 a5 a6 a7 a8 a9 a10 a11 a12 a13 a14 a15 a16 a17 a18 a19 a20 a21 a22 a23 a24 a25 a26 a27 k
  unfold spec_BrokenBy.f
  repeat' first
      | (with_reducible exact spec_ruAll.mono _ _)
      | (with_reducible exact spec_ruBroken.mono _ _ _ _ _ _ _ _ _ _ _ _ _ _ _ _ _ _ _ _ _ _ _ _ _ _ _ _ _)
      | (with_reducible exact spec_siGood.mono _ _ _ _ _ _ _ _ _ _ _ _ _ _ _ _ _ _ _ _ _ _ _ _ _ _ _ _)
      | (with_reducible exact LeO.refl _)
      | (with_reducible exact LeO.none _)
      | (with_reducible refine LeO.ite ?_ ?_)
      | (with_reducible refine LeO.bind ?_ (fun _ => ?_))
      | exact spec_ruAll.mono _ _
      | exact spec_ruBroken.mono _ _ _ _ _ _ _ _ _ _ _ _ _ _ _ _ _ _ _ _ _ _ _ _ _ _ _ _ _
      | exact spec_siGood.mono _ _ _ _ _ _ _ _ _ _ _ _ _ _ _ _ _ _ _ _ _ _ _ _ _ _ _ _
      | exact LeO.none _
      | refine LeO.ite ?_ ?_
      | refine LeO.bind ?_ (fun _ => ?_)

def spec_BrokenBy.e (k : Nat) : Refl.Ent G := ⟨39, [(.agg gL3), (.c (.row 112 false))], .tup [(.c (.own 3)), (.c .bool)], fun x => spec_BrokenBy.f k x.1 x.2.1 x.2.2.1 x.2.2.2.1 x.2.2.2.2.1 x.2.2.2.2.2.1 x.2.2.2.2.2.2.1 x.2.2.2.2.2.2.2.1 x.2.2.2.2.2.2.2.2.1 x.2.2.2.2.2.2.2.2.2.1 x.2.2.2.2.2.2.2.2.2.2.1 x.2.2.2.2.2.2.2.2.2.2.2.1 x.2.2.2.2.2.2.2.2.2.2.2.2.1 x.2.2.2.2.2.2.2.2.2.2.2.2.2.1 x.2.2.2.2.2.2.2.2.2.2.2.2.2.2.1 x.2.2.2.2.2.2.2.2.2.2.2.2.2.2.2.1 x.2.2.2.2.2.2.2.2.2.2.2.2.2.2.2.2.1 x.2.2.2.2.2.2.2.2.2.2.2.2.2.2.2.2.2.1 x.2.2.2.2.2.2.2.2.2.2.2.2.2.2.2.2.2.2.1 x.2.2.2.2.2.2.2.2.2.2.2.2.2.2.2.2.2.2.2.1 x.2.2.2.2.2.2.2.2.2.2.2.2.2.2.2.2.2.2.2.2.1 x.2.2.2.2.2.2.2.2.2.2.2.2.2.2.2.2.2.2.2.2.2.1 x.2.2.2.2.2.2.2.2.2.2.2.2.2.2.2.2.2.2.2.2.2.2.1 x.2.2.2.2.2.2.2.2.2.2.2.2.2.2.2.2.2.2.2.2.2.2.2.1 x.2.2.2.2.2.2.2.2.2.2.2.2.2.2.2.2.2.2.2.2.2.2.2.2.1 x.2.2.2.2.2.2.2.2.2.2.2.2.2.2.2.2.2.2.2.2.2.2.2.2.2.1 x.2.2.2.2.2.2.2.2.2.2.2.2.2.2.2.2.2.2.2.2.2.2.2.2.2.2.1 x.2.2.2.2.2.2.2.2.2.2.2.2.2.2.2.2.2.2.2.2.2.2.2.2.2.2.2⟩
theorem spec_BrokenBy.ok (k : Nat) : Refl.EntOK Tryz.prog (spec_BrokenBy.e k) := Refl.ent_ok 1000000 k GC (fun k => [spec_siGood.e k, spec_ruAll.e k, spec_ruBroken.e k]) (fun k => ⟨spec_siGood.ok k, spec_ruAll.ok k, spec_ruBroken.ok k, trivial⟩) Tryz.func39 (by kernel_rfl) [] (ps := []) (by kernel_rfl) trivial (fun x => by kernel_rfl)

/-! ### laws_toShape: function 122 -/

def laws_toShape.f (a0_0 : Int) (a0_1 : Int) (a0_2 : Int) (a0_3 : Int) (a0_4 : Int) (a0_5 : Bool) : Option (Int × Int × Int × Int × Int × Bool) := some (a0_0, a0_1, a0_2, a0_3, a0_4, a0_5)

def laws_toShape.e (k : Nat) : Refl.Ent G := ⟨122, [(.agg [li, li, li, li, li, .bool])], .one (.agg [li, li, li, li, li, .bool]), fun x => laws_toShape.f x.1 x.2.1 x.2.2.1 x.2.2.2.1 x.2.2.2.2.1 x.2.2.2.2.2⟩
theorem laws_toShape.ok (k : Nat) : Refl.EntOK Tryz.prog (laws_toShape.e k) := Refl.ent_ok 1000000 k GC (fun k => []) (fun k => trivial) Tryz.func122 (by kernel_rfl) [] (ps := []) (by kernel_rfl) trivial (fun x => by kernel_rfl)

/-! ### laws_toOrient: function 123 -/

def laws_toOrient.f (a0_0 : Int) (a0_1 : Int) : Option (Int × Int) := some (a0_0, a0_1)

def laws_toOrient.e (k : Nat) : Refl.Ent G := ⟨123, [(.agg [li, li])], .one (.agg [li, li]), fun x => laws_toOrient.f x.1 x.2⟩
theorem laws_toOrient.ok (k : Nat) : Refl.EntOK Tryz.prog (laws_toOrient.e k) := Refl.ent_ok 1000000 k GC (fun k => []) (fun k => trivial) Tryz.func123 (by kernel_rfl) [] (ps := []) (by kernel_rfl) trivial (fun x => by kernel_rfl)

/-! ### laws_toPlace: function 124 -/

def laws_toPlace.f (a0_0 : Int) (a0_1 : Int) (a0_2 : Bool) : Option (Int × Int × Bool) := some (a0_0, a0_1, a0_2)

def laws_toPlace.e (k : Nat) : Refl.Ent G := ⟨124, [(.agg [li, li, .bool])], .one (.agg [li, li, .bool]), fun x => laws_toPlace.f x.1 x.2.1 x.2.2⟩
theorem laws_toPlace.ok (k : Nat) : Refl.EntOK Tryz.prog (laws_toPlace.e k) := Refl.ent_ok 1000000 k GC (fun k => []) (fun k => trivial) Tryz.func124 (by kernel_rfl) [] (ps := []) (by kernel_rfl) trivial (fun x => by kernel_rfl)

/-! ### laws_toMove: function 125 -/

def laws_toMove.f (a0_0 : ByteArray) (a0_1 : Int) : Option (ByteArray × Int) := some (a0_0, a0_1)

def laws_toMove.e (k : Nat) : Refl.Ent G := ⟨125, [(.agg [.str, li])], .one (.agg [.str, li]), fun x => laws_toMove.f x.1 x.2⟩
theorem laws_toMove.ok (k : Nat) : Refl.EntOK Tryz.prog (laws_toMove.e k) := Refl.ent_ok 1000000 k GC (fun k => []) (fun k => trivial) Tryz.func125 (by kernel_rfl) [] (ps := []) (by kernel_rfl) trivial (fun x => by kernel_rfl)

/-! ### laws_toHand: function 72 -/

def laws_toHand.f (a0_0 : Int) (a0_1 : Int) (a0_2 : Int) (a0_3 : Int) (a0_4 : Int) (a0_5 : Bool) (a0_6 : Int) (a0_7 : Int) (a0_8 : Int) (a0_9 : Int) (a0_10 : Bool) (a0_11 : ByteArray) (a0_12 : Int) : Option (Int × Int × Int × Int × Int × Bool × Int × Int × Int × Int × Bool × ByteArray × Int) := (laws_toShape.f a0_0 a0_1 a0_2 a0_3 a0_4 a0_5).bind fun bt260 => ((laws_toOrient.f a0_6 a0_7).bind fun bt266 => ((laws_toPlace.f a0_8 a0_9 a0_10).bind fun bt268 => ((laws_toMove.f a0_11 a0_12).bind fun bt271 => (some (bt260.1, bt260.2.1, bt260.2.2.1, bt260.2.2.2.1, bt260.2.2.2.2.1, bt260.2.2.2.2.2, bt266.1, bt266.2, bt268.1, bt268.2.1, bt268.2.2, bt271.1, bt271.2)))))

def laws_toHand.e (k : Nat) : Refl.Ent G := ⟨72, [(.agg gL2)], .one (.agg gL2), fun x => laws_toHand.f x.1 x.2.1 x.2.2.1 x.2.2.2.1 x.2.2.2.2.1 x.2.2.2.2.2.1 x.2.2.2.2.2.2.1 x.2.2.2.2.2.2.2.1 x.2.2.2.2.2.2.2.2.1 x.2.2.2.2.2.2.2.2.2.1 x.2.2.2.2.2.2.2.2.2.2.1 x.2.2.2.2.2.2.2.2.2.2.2.1 x.2.2.2.2.2.2.2.2.2.2.2.2⟩
theorem laws_toHand.ok (k : Nat) : Refl.EntOK Tryz.prog (laws_toHand.e k) := Refl.ent_ok 1000000 k GC (fun k => [laws_toShape.e k, laws_toOrient.e k, laws_toPlace.e k, laws_toMove.e k]) (fun k => ⟨laws_toShape.ok k, laws_toOrient.ok k, laws_toPlace.ok k, laws_toMove.ok k, trivial⟩) Tryz.func72 (by kernel_rfl) [] (ps := []) (by kernel_rfl) trivial (fun x => by kernel_rfl)

/-! ### laws_toSign: function 40 -/

def laws_toSign.f (a0_0 : Int) (a0_1 : Int) (a0_2 : Int) (a0_3 : Int) (a0_4 : Int) (a0_5 : Bool) (a0_6 : Int) (a0_7 : Int) (a0_8 : Int) (a0_9 : Int) (a0_10 : Bool) (a0_11 : ByteArray) (a0_12 : Int) (a0_13 : Bool) (a0_14 : Int) (a0_15 : Int) (a0_16 : Int) (a0_17 : Int) (a0_18 : Int) (a0_19 : Bool) (a0_20 : Int) (a0_21 : Int) (a0_22 : Int) (a0_23 : Int) (a0_24 : Bool) (a0_25 : ByteArray) (a0_26 : Int) : Option (Int × Int × Int × Int × Int × Bool × Int × Int × Int × Int × Bool × ByteArray × Int × Bool × Int × Int × Int × Int × Int × Bool × Int × Int × Int × Int × Bool × ByteArray × Int) := (laws_toHand.f a0_0 a0_1 a0_2 a0_3 a0_4 a0_5 a0_6 a0_7 a0_8 a0_9 a0_10 a0_11 a0_12).bind fun x => (laws_toHand.f a0_14 a0_15 a0_16 a0_17 a0_18 a0_19 a0_20 a0_21 a0_22 a0_23 a0_24 a0_25 a0_26).bind fun y => some (x.1, x.2.1, x.2.2.1, x.2.2.2.1, x.2.2.2.2.1, x.2.2.2.2.2.1, x.2.2.2.2.2.2.1, x.2.2.2.2.2.2.2.1, x.2.2.2.2.2.2.2.2.1, x.2.2.2.2.2.2.2.2.2.1, x.2.2.2.2.2.2.2.2.2.2.1, x.2.2.2.2.2.2.2.2.2.2.2.1, x.2.2.2.2.2.2.2.2.2.2.2.2, a0_13, y.1, y.2.1, y.2.2.1, y.2.2.2.1, y.2.2.2.2.1, y.2.2.2.2.2.1, y.2.2.2.2.2.2.1, y.2.2.2.2.2.2.2.1, y.2.2.2.2.2.2.2.2.1, y.2.2.2.2.2.2.2.2.2.1, y.2.2.2.2.2.2.2.2.2.2.1, y.2.2.2.2.2.2.2.2.2.2.2.1, y.2.2.2.2.2.2.2.2.2.2.2.2)

def laws_toSign.e (k : Nat) : Refl.Ent G := ⟨40, [(.agg gL3)], .one (.agg gL3), fun x => laws_toSign.f x.1 x.2.1 x.2.2.1 x.2.2.2.1 x.2.2.2.2.1 x.2.2.2.2.2.1 x.2.2.2.2.2.2.1 x.2.2.2.2.2.2.2.1 x.2.2.2.2.2.2.2.2.1 x.2.2.2.2.2.2.2.2.2.1 x.2.2.2.2.2.2.2.2.2.2.1 x.2.2.2.2.2.2.2.2.2.2.2.1 x.2.2.2.2.2.2.2.2.2.2.2.2.1 x.2.2.2.2.2.2.2.2.2.2.2.2.2.1 x.2.2.2.2.2.2.2.2.2.2.2.2.2.2.1 x.2.2.2.2.2.2.2.2.2.2.2.2.2.2.2.1 x.2.2.2.2.2.2.2.2.2.2.2.2.2.2.2.2.1 x.2.2.2.2.2.2.2.2.2.2.2.2.2.2.2.2.2.1 x.2.2.2.2.2.2.2.2.2.2.2.2.2.2.2.2.2.2.1 x.2.2.2.2.2.2.2.2.2.2.2.2.2.2.2.2.2.2.2.1 x.2.2.2.2.2.2.2.2.2.2.2.2.2.2.2.2.2.2.2.2.1 x.2.2.2.2.2.2.2.2.2.2.2.2.2.2.2.2.2.2.2.2.2.1 x.2.2.2.2.2.2.2.2.2.2.2.2.2.2.2.2.2.2.2.2.2.2.1 x.2.2.2.2.2.2.2.2.2.2.2.2.2.2.2.2.2.2.2.2.2.2.2.1 x.2.2.2.2.2.2.2.2.2.2.2.2.2.2.2.2.2.2.2.2.2.2.2.2.1 x.2.2.2.2.2.2.2.2.2.2.2.2.2.2.2.2.2.2.2.2.2.2.2.2.2.1 x.2.2.2.2.2.2.2.2.2.2.2.2.2.2.2.2.2.2.2.2.2.2.2.2.2.2⟩
theorem laws_toSign.ok (k : Nat) : Refl.EntOK Tryz.prog (laws_toSign.e k) := Refl.ent_ok 1000000 k GC (fun k => [laws_toHand.e k]) (fun k => ⟨laws_toHand.ok k, trivial⟩) Tryz.func40 (by kernel_rfl) [] (ps := []) (by kernel_rfl) trivial (fun x => by kernel_rfl)

/-! ### laws_toConstraint: function 73 -/

def laws_toConstraint.f (a0_0 : Int) (a0_1 : Int) : Option (Int × Int) := some (a0_0, a0_1)

def laws_toConstraint.e (k : Nat) : Refl.Ent G := ⟨73, [(.agg [li, li])], .one (.agg [li, li]), fun x => laws_toConstraint.f x.1 x.2⟩
theorem laws_toConstraint.ok (k : Nat) : Refl.EntOK Tryz.prog (laws_toConstraint.e k) := Refl.ent_ok 1000000 k GC (fun k => []) (fun k => trivial) Tryz.func73 (by kernel_rfl) [] (ps := []) (by kernel_rfl) trivial (fun x => by kernel_rfl)

/-! ### laws_toConstraintS: function 41 -/

def laws_toConstraintS.l0 : Nat → List (S114) → List (S112) → Int → Option ((List (S112)))
  | 0, _, _, _ => none
  | k + 1, x0, x3, x4 => if x4 < (x0.length : Int) then (if 0 ≤ x4 then (if x4 < (x0.length : Int) then ((laws_toConstraint.f ((rd_T114 x0 x4).f0) ((rd_T114 x0 x4).f1)).bind fun bt280 => (if 0 ≤ x4 then (if x4 < (x3.length : Int) then (laws_toConstraintS.l0 k x0 (x3.set (x4 : Int).toNat (⟨bt280.1, bt280.2⟩ : S112)) (wrap64 (x4 + 1))) else (none)) else (none))) else (none)) else (none)) else (some x3)

def laws_toConstraintS.f (k : Nat) (l0 : List (S114)) : Option ((List (S112))) := if 0 ≤ (l0.length : Int) then (if ((l0.length : Int) : Int).toNat ≤ 17592186044416 then (laws_toConstraintS.l0 k l0 (List.replicate ((l0.length : Int) : Int).toNat z112) 0) else (none)) else (none)

theorem laws_toConstraintS.mono_l : ∀ k, (∀ y0 y1 y2, LeO (laws_toConstraintS.l0 k y0 y1 y2) (laws_toConstraintS.l0 (k + 1) y0 y1 y2))
  | 0 => fun _ _ _ r h => by simp [laws_toConstraintS.l0] at h
  | k + 1 => by
    have ih0 := laws_toConstraintS.mono_l k
    · intro y0 y1 y2
      unfold laws_toConstraintS.l0
      repeat' first
      | (with_reducible exact ih0 _ _ _)
      | (with_reducible exact LeO.refl _)
      | (with_reducible exact LeO.none _)
      | (with_reducible refine LeO.ite ?_ ?_)
      | (with_reducible refine LeO.bind ?_ (fun _ => ?_))
      | exact ih0 _ _ _
      | exact LeO.none _
      | refine LeO.ite ?_ ?_
      | refine LeO.bind ?_ (fun _ => ?_)

theorem laws_toConstraintS.mono : ∀ a0 k, LeO (laws_toConstraintS.f k a0) (laws_toConstraintS.f (k + 1) a0) := by
  intro a0 k
  have ih0 := laws_toConstraintS.mono_l k
  unfold laws_toConstraintS.f
  repeat' first
      | (with_reducible exact ih0 _ _ _)
      | (with_reducible exact LeO.refl _)
      | (with_reducible exact LeO.none _)
      | (with_reducible refine LeO.ite ?_ ?_)
      | (with_reducible refine LeO.bind ?_ (fun _ => ?_))
      | exact ih0 _ _ _
      | exact LeO.none _
      | refine LeO.ite ?_ ?_
      | refine LeO.bind ?_ (fun _ => ?_)

def laws_toConstraintS.e (k : Nat) : Refl.Ent G := ⟨41, [(.c (.row 114 false))], .one (.c (.own 112)), fun x => laws_toConstraintS.f k x⟩
def laws_toConstraintS.pl0 : Refl.Pn G (Refl.PT G (laws_toConstraintS.e 0).ol) := ⟨true, 0, ⟨[(0, .v (.c (.row 114 false))), (3, .v (.c (.own 112))), (4, .v (.c li))], []⟩, fun k x => laws_toConstraintS.l0 k x.1 x.2.1 x.2.2⟩
theorem laws_toConstraintS.ok (k : Nat) : Refl.EntOK Tryz.prog (laws_toConstraintS.e k) := Refl.ent_ok 1000000 k GC (fun k => [laws_toConstraint.e k]) (fun k => ⟨laws_toConstraint.ok k, trivial⟩) Tryz.func41 (by kernel_rfl) [laws_toConstraintS.pl0] (ps := [laws_toConstraintS.pl0]) (by kernel_rfl) ⟨⟨fun x => by kernel_rfl, fun k x => by kernel_rfl⟩, trivial⟩ (fun x => by kernel_rfl)

/-! ### strings_Repeat: function 196 -/

def strings_Repeat.f (a0 : ByteArray) (a1 : Int) : Option ByteArray :=
  if 0 ≤ a1 ∧ a1 ≤ 9223372036854775807 ∧ a0.size * a1.toNat ≤ 140737488355328 then some ⟨(Lib.repeatL a0.data.toList a1.toNat).toArray⟩ else none
theorem strings_Repeat.calls (a0 : ByteArray) (a1 : Int) (r : ByteArray) (w : World) (h : strings_Repeat.f a0 a1 = some r) :
    Calls Tryz.prog 196 #[.string a0, .int .i64 a1] w fun e w' => e = .returned (.string r) ∧ Below w.heap.size w w' := by
  unfold strings_Repeat.f at h
  split at h
  · rename_i hc
    obtain rfl := Option.some.inj h
    obtain ⟨c, rfl⟩ := Int.eq_ofNat_of_zero_le hc.1
    exact Tryz.strings_Repeat a0 c w (by omega) (by simpa using hc.2.2)
  · exact absurd h (by simp)

def strings_Repeat.e (k : Nat) : Refl.Ent G := ⟨196, [(.c .str), (.c li)], .one (.c .str), fun x => strings_Repeat.f x.1 x.2⟩
theorem strings_Repeat.ok (k : Nat) : Refl.EntOK Tryz.prog (strings_Repeat.e k) := Refl.entOK_hand Tryz.func196 (by kernel_rfl) (fun x => by kernel_rfl) (fun y => ⟨by kernel_rfl, by kernel_rfl, by kernel_rfl, by kernel_rfl⟩) (fun x y h w => (strings_Repeat.calls x.1 x.2 y w h).mono fun e w' hh => ⟨hh.1, hh.2⟩)

/-! ### impl_Move_all: function 172 -/

def impl_Move_all.f (a0_0 : ByteArray) (a0_1 : Int) : Option (ByteArray) := (strings_Repeat.f a0_0 a0_1).bind fun t284 => (some t284)

def impl_Move_all.e (k : Nat) : Refl.Ent G := ⟨172, [(.agg [.str, li])], .one (.c .str), fun x => impl_Move_all.f x.1 x.2⟩
theorem impl_Move_all.ok (k : Nat) : Refl.EntOK Tryz.prog (impl_Move_all.e k) := Refl.ent_ok 1000000 k GC (fun k => [strings_Repeat.e k]) (fun k => ⟨strings_Repeat.ok k, trivial⟩) Tryz.func172 (by kernel_rfl) [] (ps := []) (by kernel_rfl) trivial (fun x => by kernel_rfl)

/-! ### impl_Sign_steps: function 129 -/

def impl_Sign_steps.f (a0_0 : Int) (a0_1 : Int) (a0_2 : Int) (a0_3 : Int) (a0_4 : Int) (a0_5 : Bool) (a0_6 : Int) (a0_7 : Int) (a0_8 : Int) (a0_9 : Int) (a0_10 : Bool) (a0_11 : ByteArray) (a0_12 : Int) (a0_13 : Bool) (a0_14 : Int) (a0_15 : Int) (a0_16 : Int) (a0_17 : Int) (a0_18 : Int) (a0_19 : Bool) (a0_20 : Int) (a0_21 : Int) (a0_22 : Int) (a0_23 : Int) (a0_24 : Bool) (a0_25 : ByteArray) (a0_26 : Int) : Option (Int) := (impl_Move_all.f a0_11 a0_12).bind fun t286 => ((impl_Move_all.f a0_25 a0_26).bind fun t287 => (some (mx (t286.size : Int) (t287.size : Int))))

def impl_Sign_steps.e (k : Nat) : Refl.Ent G := ⟨129, [(.agg gL3)], .one (.c li), fun x => impl_Sign_steps.f x.1 x.2.1 x.2.2.1 x.2.2.2.1 x.2.2.2.2.1 x.2.2.2.2.2.1 x.2.2.2.2.2.2.1 x.2.2.2.2.2.2.2.1 x.2.2.2.2.2.2.2.2.1 x.2.2.2.2.2.2.2.2.2.1 x.2.2.2.2.2.2.2.2.2.2.1 x.2.2.2.2.2.2.2.2.2.2.2.1 x.2.2.2.2.2.2.2.2.2.2.2.2.1 x.2.2.2.2.2.2.2.2.2.2.2.2.2.1 x.2.2.2.2.2.2.2.2.2.2.2.2.2.2.1 x.2.2.2.2.2.2.2.2.2.2.2.2.2.2.2.1 x.2.2.2.2.2.2.2.2.2.2.2.2.2.2.2.2.1 x.2.2.2.2.2.2.2.2.2.2.2.2.2.2.2.2.2.1 x.2.2.2.2.2.2.2.2.2.2.2.2.2.2.2.2.2.2.1 x.2.2.2.2.2.2.2.2.2.2.2.2.2.2.2.2.2.2.2.1 x.2.2.2.2.2.2.2.2.2.2.2.2.2.2.2.2.2.2.2.2.1 x.2.2.2.2.2.2.2.2.2.2.2.2.2.2.2.2.2.2.2.2.2.1 x.2.2.2.2.2.2.2.2.2.2.2.2.2.2.2.2.2.2.2.2.2.2.1 x.2.2.2.2.2.2.2.2.2.2.2.2.2.2.2.2.2.2.2.2.2.2.2.1 x.2.2.2.2.2.2.2.2.2.2.2.2.2.2.2.2.2.2.2.2.2.2.2.2.1 x.2.2.2.2.2.2.2.2.2.2.2.2.2.2.2.2.2.2.2.2.2.2.2.2.2.1 x.2.2.2.2.2.2.2.2.2.2.2.2.2.2.2.2.2.2.2.2.2.2.2.2.2.2⟩
theorem impl_Sign_steps.ok (k : Nat) : Refl.EntOK Tryz.prog (impl_Sign_steps.e k) := Refl.ent_ok 1000000 k GC (fun k => [impl_Move_all.e k]) (fun k => ⟨impl_Move_all.ok k, trivial⟩) Tryz.func129 (by kernel_rfl) [] (ps := []) (by kernel_rfl) trivial (fun x => by kernel_rfl)

/-! ### impl_Shape_open: function 130 -/

def thIIdx : Nat → List Int → List Int
  | _, [] => []
  | i, x :: xs => if (x == 0) = true then (i : Int) :: thIIdx (i + 1) xs else thIIdx (i + 1) xs
/-- How many hold. -/

def thICnt (l : List Int) : Int := ((l.filter fun x => (x == 0)).length : Int)

theorem thIIdx_len : ∀ (l : List Int) (i : Nat), (thIIdx i l).length = (l.filter fun x => (x == 0)).length
  | [], _ => rfl
  | x :: xs, i => by
    unfold thIIdx
    rw [List.filter_cons]
    by_cases h : (x == 0) = true
    · rw [if_pos h, if_pos h, List.length_cons, List.length_cons, thIIdx_len xs (i + 1)]
    · rw [if_neg h, if_neg h, thIIdx_len xs (i + 1)]

def thIFrom (l : List Int) (i : Nat) (o R : List Int) : Prop := i ≤ l.length ∧ o ++ thIIdx i (l.drop i) = R ∧ o.length ≤ i

theorem thI_step {l : List Int} {i : Nat} {o R : List Int} (h : thIFrom l i o R) (hlt : i < l.length) : ((fun x => (x == 0)) l[i] = true → thIFrom l (i + 1) (o ++ [(i : Int)]) R) ∧ (¬ (fun x => (x == 0)) l[i] = true → thIFrom l (i + 1) o R) := by
  obtain ⟨_, h, hl⟩ := h
  rw [List.drop_eq_getElem_cons hlt] at h
  unfold thIIdx at h
  refine ⟨fun e => ?_, fun e => ?_⟩
  · rw [if_pos e] at h
    exact ⟨by omega, by rw [List.append_assoc]; exact h, by simp; omega⟩
  · rw [if_neg e] at h
    exact ⟨by omega, h, by omega⟩

theorem thI_end {l : List Int} {i : Nat} {o R : List Int} (h : thIFrom l i o R) (hge : ¬ i < l.length) : o = R := by
  obtain ⟨hi, h, _⟩ := h
  rw [List.drop_eq_nil_of_le (by omega)] at h
  simpa [thIIdx] using h

theorem thI_info : (Tryz.prog.info? 3).map (fun i => (i.zero, i.size, i.bytes)) = some (some (.int .i64 0), 1, 8) := by kernel_rfl

def impl_Shape_open.f (a0_0 a0_1 a0_2 a0_3 a0_4 : Int) (a0_5 : Bool) : Option Int := some (thICnt [a0_1, a0_2, a0_3, a0_4])

def impl_Shape_open.e (k : Nat) : Refl.Ent G := ⟨130, [(.agg [li, li, li, li, li, .bool])], .one (.c li), fun x => impl_Shape_open.f x.1 x.2.1 x.2.2.1 x.2.2.2.1 x.2.2.2.2.1 x.2.2.2.2.2⟩
def op1.f (x : Int) : Option Bool := some (x == 0)
def op1.e (k : Nat) : Refl.Ent G := ⟨177, [.c li], .one (.c .bool), fun x => op1.f x⟩
theorem op1.ok (k : Nat) : Refl.EntOK Tryz.prog (op1.e k) := Refl.ent_ok 1000000 k GC (fun k => []) (fun k => trivial) Tryz.func177 (by kernel_rfl) [] (ps := []) (by kernel_rfl) trivial (fun x => by kernel_rfl)
def op2.l0 : Nat → List Int → Int → Int → List Int → Option (List Int)
  | 0, _, _, _, _ => none
  | k + 1, l, n, i, o => if i < n then (if 0 ≤ i then (if i < (l.length : Int) then ((op1.f (rd l i)).bind fun t => if t = true then (if o.length < 17592186044416 then (op2.l0 k l n (wrap64 (i + 1)) (o ++ [i])) else (none)) else (op2.l0 k l n (wrap64 (i + 1)) o)) else (none)) else (none)) else (some o)
def op2.f (k : Nat) (l : List Int) : Option (List Int) := op2.l0 k l (l.length : Int) 0 ([] : List Int)
def op2.e (k : Nat) : Refl.Ent G := ⟨176, [.c (.row 3 false), .clo 177 []], .one (.c (.row 3 true)), fun x => op2.f k x⟩
def op2.p : Refl.Pn G (Refl.PT G (op2.e 0).ol) := ⟨true, 0, ⟨[(1, .v (.clo 177 [])), (8, .v (.c (.row 3 false))), (9, .v (.c li)), (10, .v (.c li)), (5, .v (.c (.row 3 true)))], []⟩, fun k x => op2.l0 k x.1 x.2.1 x.2.2.1 x.2.2.2⟩
theorem op2.ok (k : Nat) : Refl.EntOK Tryz.prog (op2.e k) := Refl.ent_ok 1000000 k GC (fun k => [op1.e k]) (fun k => ⟨op1.ok k, trivial⟩) Tryz.func176 (by kernel_rfl) [op2.p] (ps := [op2.p]) (by kernel_rfl) ⟨⟨fun x => by kernel_rfl, fun k x => by kernel_rfl⟩, trivial⟩ (fun x => by kernel_rfl)
def op0.f (k : Nat) (a0 a1 a2 a3 a4 : Int) (a5 : Bool) : Option Int := (impl_Shape_bends.f a0 a1 a2 a3 a4 a5).bind fun t => (op2.f k t).bind fun u => some (u.length : Int)
def op0.e (k : Nat) : Refl.Ent G := ⟨130, [(.agg [li, li, li, li, li, .bool])], .one (.c li), fun x => op0.f k x.1 x.2.1 x.2.2.1 x.2.2.2.1 x.2.2.2.2.1 x.2.2.2.2.2⟩
theorem op0.ok (k : Nat) : Refl.EntOK Tryz.prog (op0.e k) := Refl.ent_ok 1000000 k GC (fun k => [impl_Shape_bends.e k, op2.e k]) (fun k => ⟨impl_Shape_bends.ok k, op2.ok k, trivial⟩) Tryz.func130 (by kernel_rfl) [] (ps := []) (by kernel_rfl) trivial (fun x => by kernel_rfl)
theorem op2_eq (l : List Int) (hl : l.length ≤ 1000) : ∀ (k i : Nat) (o : List Int), l.length - i < k → i ≤ l.length → o.length ≤ i → op2.l0 k l (l.length : Int) (i : Int) o = some (o ++ thIIdx i (l.drop i))
  | 0, i, o, h, _, _ => by omega
  | k + 1, i, o, h, hi, ho => by
    unfold op2.l0
    by_cases hlt : i < l.length
    · have hd := List.drop_eq_getElem_cons hlt
      have e : rd l (i : Int) = l[i] := by
        unfold rd
        rw [List.getD_eq_getElem?_getD]
        simp [hlt]
      have hw : wrap64 ((i : Int) + 1) = ((i + 1 : Nat) : Int) := by unfold wrap64; omega
      rw [if_pos (by omega), if_pos (by omega), if_pos (by omega), e, hd, hw]
      simp only [op1.f, Option.bind_some, thIIdx]
      by_cases hx : (l[i] == 0) = true
      · rw [if_pos hx, if_pos hx, if_pos (by omega), op2_eq l hl k (i + 1) _ (by omega) (by omega) (by simp; omega), List.append_assoc]
        rfl
      · rw [if_neg hx, if_neg hx, op2_eq l hl k (i + 1) _ (by omega) (by omega) (by omega)]
    · rw [if_neg (by omega), List.drop_eq_nil_of_le (by omega)]
      simp [thIIdx]
theorem op0_eq (a0 a1 a2 a3 a4 : Int) (a5 : Bool) : op0.f 1002 a0 a1 a2 a3 a4 a5 = impl_Shape_open.f a0 a1 a2 a3 a4 a5 := by
  have := op2_eq [a1, a2, a3, a4] (by simp) 1002 0 [] (by simp) (by simp) (by simp)
  show (op2.l0 1002 [a1, a2, a3, a4] (([a1, a2, a3, a4] : List Int).length : Int) ((0 : Nat) : Int) []).bind _ = some (thICnt [a1, a2, a3, a4])
  rw [this]
  simp only [Option.bind_some, List.nil_append, List.drop_zero, thIIdx_len, thICnt]
theorem impl_Shape_open.ok (k : Nat) : Refl.EntOK Tryz.prog (impl_Shape_open.e k) := (op0.ok 1002).weaken _ fun x y h => (op0_eq x.1 x.2.1 x.2.2.1 x.2.2.2.1 x.2.2.2.2.1 x.2.2.2.2.2).trans h

/-! ### impl_Hand_moves: function 168 -/

def impl_Hand_moves.f (a0_0 : Int) (a0_1 : Int) (a0_2 : Int) (a0_3 : Int) (a0_4 : Int) (a0_5 : Bool) (a0_6 : Int) (a0_7 : Int) (a0_8 : Int) (a0_9 : Int) (a0_10 : Bool) (a0_11 : ByteArray) (a0_12 : Int) : Option (Bool) := some (a0_11.toList != ([] : List UInt8))

def impl_Hand_moves.e (k : Nat) : Refl.Ent G := ⟨168, [(.agg gL2)], .one (.c .bool), fun x => impl_Hand_moves.f x.1 x.2.1 x.2.2.1 x.2.2.2.1 x.2.2.2.2.1 x.2.2.2.2.2.1 x.2.2.2.2.2.2.1 x.2.2.2.2.2.2.2.1 x.2.2.2.2.2.2.2.2.1 x.2.2.2.2.2.2.2.2.2.1 x.2.2.2.2.2.2.2.2.2.2.1 x.2.2.2.2.2.2.2.2.2.2.2.1 x.2.2.2.2.2.2.2.2.2.2.2.2⟩
theorem impl_Hand_moves.ok (k : Nat) : Refl.EntOK Tryz.prog (impl_Hand_moves.e k) := Refl.ent_ok 1000000 k GC (fun k => []) (fun k => trivial) Tryz.func168 (by kernel_rfl) [] (ps := []) (by kernel_rfl) trivial (fun x => by kernel_rfl)

/-! ### impl_Sign_kind: function 131 -/

def impl_Sign_kind.f (a0_0 : Int) (a0_1 : Int) (a0_2 : Int) (a0_3 : Int) (a0_4 : Int) (a0_5 : Bool) (a0_6 : Int) (a0_7 : Int) (a0_8 : Int) (a0_9 : Int) (a0_10 : Bool) (a0_11 : ByteArray) (a0_12 : Int) (a0_13 : Bool) (a0_14 : Int) (a0_15 : Int) (a0_16 : Int) (a0_17 : Int) (a0_18 : Int) (a0_19 : Bool) (a0_20 : Int) (a0_21 : Int) (a0_22 : Int) (a0_23 : Int) (a0_24 : Bool) (a0_25 : ByteArray) (a0_26 : Int) : Option (Int) := if a0_13 = true then ((impl_Hand_moves.f a0_14 a0_15 a0_16 a0_17 a0_18 a0_19 a0_20 a0_21 a0_22 a0_23 a0_24 a0_25 a0_26).bind fun t294 => (if t294 = true then (some 1) else (if (a0_14 == a0_0 && (a0_15 == a0_1 && (a0_16 == a0_2 && (a0_17 == a0_3 && (a0_18 == a0_4 && (a0_19 == a0_5)))))) = true then (some 2) else (some 3)))) else (some 0)

def impl_Sign_kind.e (k : Nat) : Refl.Ent G := ⟨131, [(.agg gL3)], .one (.c li), fun x => impl_Sign_kind.f x.1 x.2.1 x.2.2.1 x.2.2.2.1 x.2.2.2.2.1 x.2.2.2.2.2.1 x.2.2.2.2.2.2.1 x.2.2.2.2.2.2.2.1 x.2.2.2.2.2.2.2.2.1 x.2.2.2.2.2.2.2.2.2.1 x.2.2.2.2.2.2.2.2.2.2.1 x.2.2.2.2.2.2.2.2.2.2.2.1 x.2.2.2.2.2.2.2.2.2.2.2.2.1 x.2.2.2.2.2.2.2.2.2.2.2.2.2.1 x.2.2.2.2.2.2.2.2.2.2.2.2.2.2.1 x.2.2.2.2.2.2.2.2.2.2.2.2.2.2.2.1 x.2.2.2.2.2.2.2.2.2.2.2.2.2.2.2.2.1 x.2.2.2.2.2.2.2.2.2.2.2.2.2.2.2.2.2.1 x.2.2.2.2.2.2.2.2.2.2.2.2.2.2.2.2.2.2.1 x.2.2.2.2.2.2.2.2.2.2.2.2.2.2.2.2.2.2.2.1 x.2.2.2.2.2.2.2.2.2.2.2.2.2.2.2.2.2.2.2.2.1 x.2.2.2.2.2.2.2.2.2.2.2.2.2.2.2.2.2.2.2.2.2.1 x.2.2.2.2.2.2.2.2.2.2.2.2.2.2.2.2.2.2.2.2.2.2.1 x.2.2.2.2.2.2.2.2.2.2.2.2.2.2.2.2.2.2.2.2.2.2.2.1 x.2.2.2.2.2.2.2.2.2.2.2.2.2.2.2.2.2.2.2.2.2.2.2.2.1 x.2.2.2.2.2.2.2.2.2.2.2.2.2.2.2.2.2.2.2.2.2.2.2.2.2.1 x.2.2.2.2.2.2.2.2.2.2.2.2.2.2.2.2.2.2.2.2.2.2.2.2.2.2⟩
theorem impl_Sign_kind.ok (k : Nat) : Refl.EntOK Tryz.prog (impl_Sign_kind.e k) := Refl.ent_ok 1000000 k GC (fun k => [impl_Hand_moves.e k]) (fun k => ⟨impl_Hand_moves.ok k, trivial⟩) Tryz.func131 (by kernel_rfl) [] (ps := []) (by kernel_rfl) trivial (fun x => by kernel_rfl)

/-! ### impl_Constraint_keptBy: function 78 -/

def impl_Constraint_keptBy.f (a0_0 : Int) (a0_1 : Int) (a1_0 : Int) (a1_1 : Int) (a1_2 : Int) (a1_3 : Int) (a1_4 : Int) (a1_5 : Bool) (a1_6 : Int) (a1_7 : Int) (a1_8 : Int) (a1_9 : Int) (a1_10 : Bool) (a1_11 : ByteArray) (a1_12 : Int) (a1_13 : Bool) (a1_14 : Int) (a1_15 : Int) (a1_16 : Int) (a1_17 : Int) (a1_18 : Int) (a1_19 : Bool) (a1_20 : Int) (a1_21 : Int) (a1_22 : Int) (a1_23 : Int) (a1_24 : Bool) (a1_25 : ByteArray) (a1_26 : Int) : Option (Bool) := if a0_0 = 0 then ((impl_Sign_steps.f a1_0 a1_1 a1_2 a1_3 a1_4 a1_5 a1_6 a1_7 a1_8 a1_9 a1_10 a1_11 a1_12 a1_13 a1_14 a1_15 a1_16 a1_17 a1_18 a1_19 a1_20 a1_21 a1_22 a1_23 a1_24 a1_25 a1_26).bind fun t297 => (some (decide (t297 ≤ a0_1)))) else (if a0_0 = 1 then (if a1_8 = a0_1 then (some false) else (if a1_13 = true then (some (!(a1_22 == a0_1))) else (some (!false)))) else (if a0_0 = 2 then ((impl_Shape_open.f a1_0 a1_1 a1_2 a1_3 a1_4 a1_5).bind fun t298 => (some (decide (t298 ≥ a0_1)))) else (if a0_0 = 3 then ((impl_Sign_kind.f a1_0 a1_1 a1_2 a1_3 a1_4 a1_5 a1_6 a1_7 a1_8 a1_9 a1_10 a1_11 a1_12 a1_13 a1_14 a1_15 a1_16 a1_17 a1_18 a1_19 a1_20 a1_21 a1_22 a1_23 a1_24 a1_25 a1_26).bind fun t299 => (some (t299 != a0_1))) else (some (decide (a1_8 ≤ a0_1))))))

def impl_Constraint_keptBy.e (k : Nat) : Refl.Ent G := ⟨78, [(.agg [li, li]), (.agg gL3)], .one (.c .bool), fun x => impl_Constraint_keptBy.f x.1 x.2.1 x.2.2.1 x.2.2.2.1 x.2.2.2.2.1 x.2.2.2.2.2.1 x.2.2.2.2.2.2.1 x.2.2.2.2.2.2.2.1 x.2.2.2.2.2.2.2.2.1 x.2.2.2.2.2.2.2.2.2.1 x.2.2.2.2.2.2.2.2.2.2.1 x.2.2.2.2.2.2.2.2.2.2.2.1 x.2.2.2.2.2.2.2.2.2.2.2.2.1 x.2.2.2.2.2.2.2.2.2.2.2.2.2.1 x.2.2.2.2.2.2.2.2.2.2.2.2.2.2.1 x.2.2.2.2.2.2.2.2.2.2.2.2.2.2.2.1 x.2.2.2.2.2.2.2.2.2.2.2.2.2.2.2.2.1 x.2.2.2.2.2.2.2.2.2.2.2.2.2.2.2.2.2.1 x.2.2.2.2.2.2.2.2.2.2.2.2.2.2.2.2.2.2.1 x.2.2.2.2.2.2.2.2.2.2.2.2.2.2.2.2.2.2.2.1 x.2.2.2.2.2.2.2.2.2.2.2.2.2.2.2.2.2.2.2.2.1 x.2.2.2.2.2.2.2.2.2.2.2.2.2.2.2.2.2.2.2.2.2.1 x.2.2.2.2.2.2.2.2.2.2.2.2.2.2.2.2.2.2.2.2.2.2.1 x.2.2.2.2.2.2.2.2.2.2.2.2.2.2.2.2.2.2.2.2.2.2.2.1 x.2.2.2.2.2.2.2.2.2.2.2.2.2.2.2.2.2.2.2.2.2.2.2.2.1 x.2.2.2.2.2.2.2.2.2.2.2.2.2.2.2.2.2.2.2.2.2.2.2.2.2.1 x.2.2.2.2.2.2.2.2.2.2.2.2.2.2.2.2.2.2.2.2.2.2.2.2.2.2.1 x.2.2.2.2.2.2.2.2.2.2.2.2.2.2.2.2.2.2.2.2.2.2.2.2.2.2.2.1 x.2.2.2.2.2.2.2.2.2.2.2.2.2.2.2.2.2.2.2.2.2.2.2.2.2.2.2.2⟩
theorem impl_Constraint_keptBy.ok (k : Nat) : Refl.EntOK Tryz.prog (impl_Constraint_keptBy.e k) := Refl.ent_ok 1000000 k GC (fun k => [impl_Sign_steps.e k, impl_Shape_open.e k, impl_Sign_kind.e k]) (fun k => ⟨impl_Sign_steps.ok k, impl_Shape_open.ok k, impl_Sign_kind.ok k, trivial⟩) Tryz.func78 (by kernel_rfl) [] (ps := []) (by kernel_rfl) trivial (fun x => by kernel_rfl)

/-! ### impl_IsHand: function 23 -/

def impl_IsHand.f (k : Nat) (a0_0 : Int) (a0_1 : Int) (a0_2 : Int) (a0_3 : Int) (a0_4 : Int) (a0_5 : Bool) (a0_6 : Int) (a0_7 : Int) (a0_8 : Int) (a0_9 : Int) (a0_10 : Bool) (a0_11 : ByteArray) (a0_12 : Int) : Option (Bool) := (impl_IsShape.f a0_0 a0_1 a0_2 a0_3 a0_4 a0_5).bind fun t324 => (if t324 = true then ((impl_IsOrient.f a0_6 a0_7).bind fun t325 => (if t325 = true then ((impl_IsPlace.f a0_8 a0_9 a0_10).bind fun t326 => (if t326 = true then ((impl_IsMove.f k a0_11 a0_12).bind fun t327 => (some t327)) else (some false))) else (some false))) else (some false))

theorem impl_IsHand.mono : ∀ a0 a1 a2 a3 a4 a5 a6 a7 a8 a9 a10 a11 a12 k, LeO (impl_IsHand.f k a0 a1 a2 a3 a4 a5 a6 a7 a8 a9 a10 a11 a12) (impl_IsHand.f (k + 1) a0 a1 a2 a3 a4 a5 a6 a7 a8 a9 a10 a11 a12) := by
  intro a0 a1 a2 a3 a4 a5 a6 a7 a8 a9 a10 a11 a12 k
  unfold impl_IsHand.f
  repeat' first
      | (with_reducible exact impl_IsMove.mono _ _ _)
      | (with_reducible exact LeO.refl _)
      | (with_reducible exact LeO.none _)
      | (with_reducible refine LeO.ite ?_ ?_)
      | (with_reducible refine LeO.bind ?_ (fun _ => ?_))
      | exact impl_IsMove.mono _ _ _
      | exact LeO.none _
      | refine LeO.ite ?_ ?_
      | refine LeO.bind ?_ (fun _ => ?_)

def impl_IsHand.e (k : Nat) : Refl.Ent G := ⟨23, [(.agg gL2)], .one (.c .bool), fun x => impl_IsHand.f k x.1 x.2.1 x.2.2.1 x.2.2.2.1 x.2.2.2.2.1 x.2.2.2.2.2.1 x.2.2.2.2.2.2.1 x.2.2.2.2.2.2.2.1 x.2.2.2.2.2.2.2.2.1 x.2.2.2.2.2.2.2.2.2.1 x.2.2.2.2.2.2.2.2.2.2.1 x.2.2.2.2.2.2.2.2.2.2.2.1 x.2.2.2.2.2.2.2.2.2.2.2.2⟩
theorem impl_IsHand.ok (k : Nat) : Refl.EntOK Tryz.prog (impl_IsHand.e k) := Refl.ent_ok 1000000 k GC (fun k => [impl_IsShape.e k, impl_IsOrient.e k, impl_IsPlace.e k, impl_IsMove.e k]) (fun k => ⟨impl_IsShape.ok k, impl_IsOrient.ok k, impl_IsPlace.ok k, impl_IsMove.ok k, trivial⟩) Tryz.func23 (by kernel_rfl) [] (ps := []) (by kernel_rfl) trivial (fun x => by kernel_rfl)

/-! ### impl_Shape_194: function 194 -/

def impl_Shape_194.l0 : Nat → List (S23) → Int → Int → Int → Int → Int → Int → Int → Bool → Option (Int)
  | 0, _, _, _, _, _, _, _, _, _ => none
  | k + 1, x0, x7, x8, x329000, x329001, x329002, x329003, x329004, x329005 => if x8 < x7 then (if 0 ≤ x8 then (if x8 < (x0.length : Int) then (if (x329000 == ((rd_T23 x0 x8).f0) && (x329001 == ((rd_T23 x0 x8).f1) && (x329002 == ((rd_T23 x0 x8).f2) && (x329003 == ((rd_T23 x0 x8).f3) && (x329004 == ((rd_T23 x0 x8).f4) && (x329005 == ((rd_T23 x0 x8).f5))))))) = true then (some x8) else (impl_Shape_194.l0 k x0 x7 (wrap64 (x8 + 1)) x329000 x329001 x329002 x329003 x329004 x329005)) else (none)) else (none)) else (some (-1))

def impl_Shape_194.f (k : Nat) (l0 : List (S23)) (a1_0 : Int) (a1_1 : Int) (a1_2 : Int) (a1_3 : Int) (a1_4 : Int) (a1_5 : Bool) : Option (Int) := impl_Shape_194.l0 k l0 (l0.length : Int) 0 a1_0 a1_1 a1_2 a1_3 a1_4 a1_5

theorem impl_Shape_194.mono_l : ∀ k, (∀ y0 y1 y2 y3 y4 y5 y6 y7 y8, LeO (impl_Shape_194.l0 k y0 y1 y2 y3 y4 y5 y6 y7 y8) (impl_Shape_194.l0 (k + 1) y0 y1 y2 y3 y4 y5 y6 y7 y8))
  | 0 => fun _ _ _ _ _ _ _ _ _ r h => by simp [impl_Shape_194.l0] at h
  | k + 1 => by
    have ih0 := impl_Shape_194.mono_l k
    · intro y0 y1 y2 y3 y4 y5 y6 y7 y8
      unfold impl_Shape_194.l0
      repeat' first
      | (with_reducible exact ih0 _ _ _ _ _ _ _ _ _)
      | (with_reducible exact LeO.refl _)
      | (with_reducible exact LeO.none _)
      | (with_reducible refine LeO.ite ?_ ?_)
      | (with_reducible refine LeO.bind ?_ (fun _ => ?_))
      | exact ih0 _ _ _ _ _ _ _ _ _
      | exact LeO.none _
      | refine LeO.ite ?_ ?_
      | refine LeO.bind ?_ (fun _ => ?_)

theorem impl_Shape_194.mono : ∀ a0 a1 a2 a3 a4 a5 a6 k, LeO (impl_Shape_194.f k a0 a1 a2 a3 a4 a5 a6) (impl_Shape_194.f (k + 1) a0 a1 a2 a3 a4 a5 a6) := by
  intro a0 a1 a2 a3 a4 a5 a6 k
  have ih0 := impl_Shape_194.mono_l k
  unfold impl_Shape_194.f
  repeat' first
      | (with_reducible exact ih0 _ _ _ _ _ _ _ _ _)
      | (with_reducible exact LeO.refl _)
      | (with_reducible exact LeO.none _)
      | (with_reducible refine LeO.ite ?_ ?_)
      | (with_reducible refine LeO.bind ?_ (fun _ => ?_))
      | exact ih0 _ _ _ _ _ _ _ _ _
      | exact LeO.none _
      | refine LeO.ite ?_ ?_
      | refine LeO.bind ?_ (fun _ => ?_)

def impl_Shape_194.e (k : Nat) : Refl.Ent G := ⟨194, [(.c (.row 23 false)), (.agg [li, li, li, li, li, .bool])], .one (.c li), fun x => impl_Shape_194.f k x.1 x.2.1 x.2.2.1 x.2.2.2.1 x.2.2.2.2.1 x.2.2.2.2.2.1 x.2.2.2.2.2.2⟩
def impl_Shape_194.pl0 : Refl.Pn G (Refl.PT G (impl_Shape_194.e 0).ol) := ⟨true, 0, ⟨[(0, .v (.c (.row 23 false))), (7, .v (.c li)), (8, .v (.c li)), (3, .box 3 0), (4, .k (Value.int IntKind.i64 0))], [(3, 23, gL1)]⟩, fun k x => impl_Shape_194.l0 k x.1 x.2.1 x.2.2.1 x.2.2.2.1 x.2.2.2.2.1 x.2.2.2.2.2.1 x.2.2.2.2.2.2.1 x.2.2.2.2.2.2.2.1 x.2.2.2.2.2.2.2.2⟩
theorem impl_Shape_194.ok (k : Nat) : Refl.EntOK Tryz.prog (impl_Shape_194.e k) := Refl.ent_ok 1000000 k GC (fun k => []) (fun k => trivial) Tryz.func194 (by kernel_rfl) [impl_Shape_194.pl0] (ps := [impl_Shape_194.pl0]) (by kernel_rfl) ⟨⟨fun x => by kernel_rfl, fun k x => by kernel_rfl⟩, trivial⟩ (fun x => by kernel_rfl)

/-! ### impl_Shape_169: function 169 -/

def impl_Shape_169.f (k : Nat) (l0 : List (S23)) (a1_0 : Int) (a1_1 : Int) (a1_2 : Int) (a1_3 : Int) (a1_4 : Int) (a1_5 : Bool) : Option (Bool) := (impl_Shape_194.f k l0 a1_0 a1_1 a1_2 a1_3 a1_4 a1_5).bind fun t331 => (some (decide (t331 ≥ 0)))

theorem impl_Shape_169.mono : ∀ a0 a1 a2 a3 a4 a5 a6 k, LeO (impl_Shape_169.f k a0 a1 a2 a3 a4 a5 a6) (impl_Shape_169.f (k + 1) a0 a1 a2 a3 a4 a5 a6) := by
  intro a0 a1 a2 a3 a4 a5 a6 k
  unfold impl_Shape_169.f
  repeat' first
      | (with_reducible exact impl_Shape_194.mono _ _ _ _ _ _ _ _)
      | (with_reducible exact LeO.refl _)
      | (with_reducible exact LeO.none _)
      | (with_reducible refine LeO.ite ?_ ?_)
      | (with_reducible refine LeO.bind ?_ (fun _ => ?_))
      | exact impl_Shape_194.mono _ _ _ _ _ _ _ _
      | exact LeO.none _
      | refine LeO.ite ?_ ?_
      | refine LeO.bind ?_ (fun _ => ?_)

def impl_Shape_169.e (k : Nat) : Refl.Ent G := ⟨169, [(.c (.row 23 false)), (.agg [li, li, li, li, li, .bool])], .one (.c .bool), fun x => impl_Shape_169.f k x.1 x.2.1 x.2.2.1 x.2.2.2.1 x.2.2.2.2.1 x.2.2.2.2.2.1 x.2.2.2.2.2.2⟩
theorem impl_Shape_169.ok (k : Nat) : Refl.EntOK Tryz.prog (impl_Shape_169.e k) := Refl.ent_ok 1000000 k GC (fun k => [impl_Shape_194.e k]) (fun k => ⟨impl_Shape_194.ok k, trivial⟩) Tryz.func169 (by kernel_rfl) [] (ps := []) (by kernel_rfl) trivial (fun x => by kernel_rfl)

/-! ### impl_PlainShapes: function 170 -/

def impl_PlainShapes.l0 : Nat → List (S23) → List ByteArray → Int → Int → Option ((List (S23)))
  | 0, _, _, _, _ => none
  | k + 1, x1, x6, x7, x8 => if x8 < x7 then (if 0 ≤ x8 then (if x8 < (x6.length : Int) then ((impl_ParseShape.f k (rdOf ByteArray.empty x6 x8)).bind fun bt361 => (if x1.length < 2932031007402 then (impl_PlainShapes.l0 k (x1 ++ [(⟨bt361.1, bt361.2.1, bt361.2.2.1, bt361.2.2.2.1, bt361.2.2.2.2.1, bt361.2.2.2.2.2.1⟩ : S23)]) x6 x7 (wrap64 (x8 + 1))) else (none))) else (none)) else (none)) else (some x1)

def impl_PlainShapes.f (k : Nat)  : Option ((List (S23))) := (some (([(⟨#[48, 48, 48, 48, 48]⟩ : ByteArray), (⟨#[48, 48, 48, 48, 48, 115]⟩ : ByteArray), (⟨#[50, 50, 50, 50, 50]⟩ : ByteArray), (⟨#[49, 48, 48, 48, 48]⟩ : ByteArray), (⟨#[49, 48, 50, 50, 50]⟩ : ByteArray), (⟨#[48, 48, 50, 50, 50]⟩ : ByteArray)] : List ByteArray) : List ByteArray)).bind fun y357 => (impl_PlainShapes.l0 k ([] : List (S23)) y357 (y357.length : Int) 0)

theorem impl_PlainShapes.mono_l : ∀ k, (∀ y0 y1 y2 y3, LeO (impl_PlainShapes.l0 k y0 y1 y2 y3) (impl_PlainShapes.l0 (k + 1) y0 y1 y2 y3))
  | 0 => fun _ _ _ _ r h => by simp [impl_PlainShapes.l0] at h
  | k + 1 => by
    have ih0 := impl_PlainShapes.mono_l k
    · intro y0 y1 y2 y3
      unfold impl_PlainShapes.l0
      repeat' first
      | (with_reducible exact ih0 _ _ _ _)
      | (with_reducible exact impl_ParseShape.mono _ _)
      | (with_reducible exact LeO.refl _)
      | (with_reducible exact LeO.none _)
      | (with_reducible refine LeO.ite ?_ ?_)
      | (with_reducible refine LeO.bind ?_ (fun _ => ?_))
      | exact ih0 _ _ _ _
      | exact impl_ParseShape.mono _ _
      | exact LeO.none _
      | refine LeO.ite ?_ ?_
      | refine LeO.bind ?_ (fun _ => ?_)

theorem impl_PlainShapes.mono : ∀ k, LeO (impl_PlainShapes.f k ) (impl_PlainShapes.f (k + 1) ) := by
  intro  k
  have ih0 := impl_PlainShapes.mono_l k
  unfold impl_PlainShapes.f
  repeat' first
      | (with_reducible exact ih0 _ _ _ _)
      | (with_reducible exact impl_ParseShape.mono _ _)
      | (with_reducible exact LeO.refl _)
      | (with_reducible exact LeO.none _)
      | (with_reducible refine LeO.ite ?_ ?_)
      | (with_reducible refine LeO.bind ?_ (fun _ => ?_))
      | exact ih0 _ _ _ _
      | exact impl_ParseShape.mono _ _
      | exact LeO.none _
      | refine LeO.ite ?_ ?_
      | refine LeO.bind ?_ (fun _ => ?_)

def impl_PlainShapes.e (k : Nat) : Refl.Ent G := ⟨170, [], .one (.c (.row 23 true)), fun _ => impl_PlainShapes.f k ⟩
def impl_PlainShapes.pl0 : Refl.Pn G (Refl.PT G (impl_PlainShapes.e 0).ol) := ⟨true, 0, ⟨[(1, .v (.c (.row 23 true))), (6, .v (.c (.row 9 false))), (7, .v (.c li)), (8, .v (.c li))], []⟩, fun k x => impl_PlainShapes.l0 k x.1 x.2.1 x.2.2.1 x.2.2.2⟩
theorem impl_PlainShapes.ok (k : Nat) : Refl.EntOK Tryz.prog (impl_PlainShapes.e k) := Refl.ent_ok 1000000 k GC (fun k => [impl_ParseShape.e k]) (fun k => ⟨impl_ParseShape.ok k, trivial⟩) Tryz.func170 (by kernel_rfl) [impl_PlainShapes.pl0] (ps := [impl_PlainShapes.pl0]) (by kernel_rfl) ⟨⟨fun x => by kernel_rfl, fun k x => by kernel_rfl⟩, trivial⟩ (fun x => by kernel_rfl)

/-! ### impl_Orient_mirrored: function 171 -/

def orSw (d : Int) : Int := if d = 2 then 3 else if d = 3 then 2 else d
def impl_Orient_mirrored.f (a0_0 a0_1 : Int) : Option (Int × Int) := some (orSw a0_0, orSw a0_1)
set_option maxHeartbeats 4000000 in
set_option maxRecDepth 100000 in
theorem orSw_calls (d : Int) (w : World) : Calls Tryz.prog 195 #[.int .i64 d] w fun e w' => e = .returned (.int .i64 (orSw d)) ∧ Drawn0 w w' := by
  have h : (d = 2) ∨ (d = 3) ∨ (¬ d = 2 ∧ ¬ d = 3) := by omega
  rcases h with rfl | rfl | ⟨h2, h3⟩
  · go_enter Tryz.func195, Tryz.ntmps195
    go_wp2
    go_ret
    exact ⟨rfl, by repeat (first | exact Drawn0.refl _ | apply Drawn0.step)⟩
  · go_enter Tryz.func195, Tryz.ntmps195
    go_wp2
    go_ret
    exact ⟨rfl, by repeat (first | exact Drawn0.refl _ | apply Drawn0.step)⟩
  · have e : orSw d = d := by unfold orSw; rw [if_neg h2, if_neg h3]
    rw [e]
    have c2 : (d == 2) = false := by simpa using h2
    have c3 : (d == 3) = false := by simpa using h3
    clear e h2 h3
    go_enter Tryz.func195, Tryz.ntmps195
    go_wp2
    go_ret
    exact ⟨rfl, by repeat (first | exact Drawn0.refl _ | apply Drawn0.step)⟩
set_option maxHeartbeats 4000000 in
set_option maxRecDepth 100000 in
theorem impl_Orient_mirrored.calls (a0_0 a0_1 r1 r2 : Int) (w : World) (h : impl_Orient_mirrored.f a0_0 a0_1 = some (r1, r2)) :
    Calls Tryz.prog 171 #[.agg #[.int .i64 a0_0, .int .i64 a0_1]] w fun e w' => e = .returned (.agg #[.int .i64 r1, .int .i64 r2]) ∧ Below w.heap.size w w' := by
  unfold impl_Orient_mirrored.f at h
  simp only [Option.some.injEq, Prod.mk.injEq] at h
  obtain ⟨rfl, rfl⟩ := h
  have HB := Aside0.mk (Below.refl w.heap.size w)
  have HC0 := Aside0.mk (fun W => orSw_calls a0_0 W)
  have HC1 := Aside0.mk (fun W => orSw_calls a0_1 W)
  generalize orSw a0_0 = s0 at HC0
  generalize orSw a0_1 = s1 at HC1
  go_enter Tryz.func171, Tryz.ntmps171
  go_wp2_with (first
    | ((with_reducible refine gate_dst (N := 1) rfl ?_); refine box_event ?hg (N := 1) ?hd (cs := #[.int .i64 a0_0, .int .i64 a0_1]) (t := 25) ?hr ?_; (case hd => rfl); (case hg => rfl); (case hr => first | (go_simp; done) | (go_simp; rfl)); intro g1 hg1 w1 hbox hb; have BK1 := Aside0.mk hbox; have HB1 := Aside0.mk hb; clear hbox hb hg1 HB)
    | ((with_reducible refine gate_dst (N := 2) rfl ?_); refine box_event ?hg (N := 2) ?hd (cs := #[.int .i64 0, .int .i64 0]) (t := 25) ?hr ?_; (case hd => rfl); (case hg => rfl); (case hr => first | (go_simp; done) | (go_simp; rfl)); intro g2 hg2 w2 hbox hb; have BK1r := Aside0.mk (blk_below BK1.out hb); have BK2 := Aside0.mk hbox; have GE2 := Aside0.mk (show w.heap.size ≤ g2 by rw [hg2]; exact below_size HB1.out); have HB2 := Aside0.mk (below_step HB1.out hb); clear hbox hb hg2 BK1 HB1))
  have d0 : w2.cell? ⟨g1, 0, none⟩ = some (.int .i64 a0_0) := (blk_cell BK1r.out 0).trans rfl
  have d1 : w2.cell? ⟨g1, 1, none⟩ = some (.int .i64 a0_1) := (blk_cell BK1r.out 1).trans rfl
  have d2 : w2.cell? ⟨g2, 0, none⟩ = some (.int .i64 0) := (blk_cell BK2.out 0).trans rfl
  have d3 : w2.cell? ⟨g2, 1, none⟩ = some (.int .i64 0) := (blk_cell BK2.out 1).trans rfl
  have z2 : w2.frozen? ⟨g2, 0, none⟩ = false := blk_frozen BK2.out 0
  have z3 : w2.frozen? ⟨g2, 1, none⟩ = false := blk_frozen BK2.out 1
  go_region_with (first
    | (go_at_call 195; (with_reducible refine (HC0.out _).mono ?_); rintro e wq ⟨rfl, ⟨nd, rfl⟩⟩)
    | (go_at_call 195; (with_reducible refine (HC1.out _).mono ?_); rintro e wq ⟨rfl, ⟨nd, rfl⟩⟩))
  all_goals
    go_wp2
    refine bodyPost_ret (results_cell_row rfl _ _ g2 25 #[.int .i64 s0, .int .i64 s1] (0, 0) _ rfl (by (with_reducible repeat (first | apply lN_ | apply lD_ | apply lA_)); refine blk_put (cs := #[.int .i64 s0, .int .i64 0]) ?_ 1 _ rfl; (with_reducible repeat (first | apply lN_ | apply lD_ | apply lA_)); refine blk_put (cs := #[.int .i64 0, .int .i64 0]) ?_ 0 _ rfl; (with_reducible repeat (first | apply lN_ | apply lD_ | apply lA_)); exact BK2.out) Tryz.underlying25 rfl (by kernel_rfl)) rfl ?_
    exact ⟨rfl, by repeat (first | exact HB2.out | apply pw_below_drewN | apply below_drew1 | refine bS_ ?_ GE2.out)⟩

def impl_Orient_mirrored.e (k : Nat) : Refl.Ent G := ⟨171, [(.agg [li, li])], .one (.agg [li, li]), fun x => impl_Orient_mirrored.f x.1 x.2⟩
theorem impl_Orient_mirrored.ok (k : Nat) : Refl.EntOK Tryz.prog (impl_Orient_mirrored.e k) := Refl.entOK_hand Tryz.func171 (by kernel_rfl) (fun x => by kernel_rfl) (fun y => ⟨by kernel_rfl, by kernel_rfl, by kernel_rfl, by kernel_rfl⟩) (fun x y h w => (impl_Orient_mirrored.calls x.1 x.2 y.1 y.2 w h).mono fun e w' hh => ⟨hh.1, hh.2⟩)

/-! ### impl_Move_mirrored: function 173 -/

def impl_Move_mirrored.f (a0_0 : ByteArray) (a0_1 : Int) : Option (ByteArray × Int) := if a0_0.size ≤ 1000000 then some (mirS a0_0, a0_1) else none
set_option maxHeartbeats 4000000 in
set_option maxRecDepth 100000 in
theorem impl_Move_mirrored.calls (a0_0 : ByteArray) (a0_1 : Int) (r1 : ByteArray) (r2 : Int) (w : World) (h : impl_Move_mirrored.f a0_0 a0_1 = some (r1, r2)) :
    Calls Tryz.prog 173 #[.agg #[.string a0_0, .int .i64 a0_1]] w fun e w' => e = .returned (.agg #[.string r1, .int .i64 r2]) ∧ Below w.heap.size w w' := by
  unfold impl_Move_mirrored.f at h
  by_cases hs : a0_0.size ≤ 1000000
  · rw [if_pos hs] at h
    simp only [Option.some.injEq, Prod.mk.injEq] at h
    obtain ⟨rfl, rfl⟩ := h
    have HS := Aside0.mk hs
    have HB := Aside0.mk (Below.refl w.heap.size w)
    clear hs
    go_enter Tryz.func173, Tryz.ntmps173
    go_wp2_with (first
      | ((with_reducible refine gate_dst (N := 1) rfl ?_); refine box_event ?hg (N := 1) ?hd (cs := #[.string a0_0, .int .i64 a0_1]) (t := 29) ?hr ?_; (case hd => rfl); (case hg => rfl); (case hr => first | (go_simp; done) | (go_simp; rfl)); intro g1 hg1 w1 hbox hb; have BK1 := Aside0.mk hbox; have HB1 := Aside0.mk hb; clear hbox hb hg1 HB)
      | ((with_reducible refine gate_dst (N := 2) rfl ?_); refine box_event ?hg (N := 2) ?hd (cs := #[.string ⟨#[]⟩, .int .i64 0]) (t := 29) ?hr ?_; (case hd => rfl); (case hg => rfl); (case hr => first | (go_simp; done) | (go_simp; rfl)); intro g2 hg2 w2 hbox hb; have BK1r := Aside0.mk (blk_below BK1.out hb); have BK2 := Aside0.mk hbox; have GE2 := Aside0.mk (show w.heap.size ≤ g2 by rw [hg2]; exact below_size HB1.out); have HB2 := Aside0.mk (below_step HB1.out hb); clear hbox hb hg2 BK1 HB1))
    have d0 : w2.cell? ⟨g1, 0, none⟩ = some (.string a0_0) := (blk_cell BK1r.out 0).trans rfl
    have d1 : w2.cell? ⟨g1, 1, none⟩ = some (.int .i64 a0_1) := (blk_cell BK1r.out 1).trans rfl
    have a0 : ∀ o, (w2.alloc o).cell? ⟨g1, 0, none⟩ = some (.string a0_0) := fun o => (blk_cell (blk_alloc BK1r.out o) 0).trans rfl
    have a1 : ∀ o, (w2.alloc o).cell? ⟨g1, 1, none⟩ = some (.int .i64 a0_1) := fun o => (blk_cell (blk_alloc BK1r.out o) 1).trans rfl
    have d2 : w2.cell? ⟨g2, 0, none⟩ = some (.string ⟨#[]⟩) := (blk_cell BK2.out 0).trans rfl
    have d3 : w2.cell? ⟨g2, 1, none⟩ = some (.int .i64 0) := (blk_cell BK2.out 1).trans rfl
    have z2 : w2.frozen? ⟨g2, 0, none⟩ = false := blk_frozen BK2.out 0
    have z3 : w2.frozen? ⟨g2, 1, none⟩ = false := blk_frozen BK2.out 1
    go_region_with (first
      | (go_at_call 197; refine (mr_new _ 9 _ (by first | exact blk_new _ _ | exact blk_drew (blk_new _ _) | exact blk_drewN (blk_new _ _) _)).mono ?_; rintro e w3 ⟨g, bk, cp, rfl, hrp, h4, hne, hge, hb3⟩; have HB3 : Aside0 (Below w2.heap.size w2 w3) := ⟨below_step (by repeat (first | exact Below.refl _ _ | apply below_drew1 | apply pw_below_drewN | apply below_alloc)) hb3⟩; have BK1s := blk_below BK1r.out HB3.out; have e0 : w3.cell? ⟨g1, 0, none⟩ = some (.string a0_0) := (blk_cell BK1s 0).trans rfl; have e1 : w3.cell? ⟨g1, 1, none⟩ = some (.int .i64 a0_1) := (blk_cell BK1s 1).trans rfl; have HG : Aside0 (w2.heap.size ≤ g) := ⟨Nat.le_trans (below_size (w := w2) (by repeat (first | exact Below.refl _ _ | apply below_drew1 | apply pw_below_drewN | apply below_alloc))) hge⟩; have HR := Aside0.mk hrp; have H4 := Aside0.mk h4; have HN := Aside0.mk hne; clear hrp h4 hne hge hb3 BK1s)
      | (go_at_call 198; refine (mr_replace g cp w2.heap.size bk a0_0 _ HR.out H4.out HN.out HG.out HS.out).mono ?_; rintro e w4 ⟨rfl, hb4⟩; have HB4 : Aside0 (Below w2.heap.size w2 w4) := ⟨Below.trans (by repeat (first | exact HB3.out | apply below_drew1 | apply pw_below_drewN)) hb4⟩; have BK1t := blk_below BK1r.out HB4.out; have BK2t := Aside0.mk (blk_below BK2.out HB4.out); have e2 : w4.cell? ⟨g1, 1, none⟩ = some (.int .i64 a0_1) := (blk_cell BK1t 1).trans rfl; have k0 : w4.cell? ⟨g2, 0, none⟩ = some (.string ⟨#[]⟩) := (blk_cell BK2t.out 0).trans rfl; have k1 : w4.cell? ⟨g2, 1, none⟩ = some (.int .i64 0) := (blk_cell BK2t.out 1).trans rfl; have q0 : w4.frozen? ⟨g2, 0, none⟩ = false := blk_frozen BK2t.out 0; have q1 : w4.frozen? ⟨g2, 1, none⟩ = false := blk_frozen BK2t.out 1; clear hb4 BK1t))
    all_goals
      go_wp2
      refine bodyPost_ret (results_cell_row rfl _ _ g2 29 #[.string (mirS a0_0), .int .i64 a0_1] (0, 0) _ rfl (by (with_reducible repeat (first | apply lN_ | apply lD_ | apply lA_)); refine blk_put (cs := #[.string (mirS a0_0), .int .i64 0]) ?_ 1 _ rfl; (with_reducible repeat (first | apply lN_ | apply lD_ | apply lA_)); refine blk_put (cs := #[.string ⟨#[]⟩, .int .i64 0]) ?_ 0 _ rfl; (with_reducible repeat (first | apply lN_ | apply lD_ | apply lA_)); exact BK2t.out) Tryz.underlying29 rfl (by kernel_rfl)) rfl ?_
      exact ⟨rfl, by repeat (first | exact (HB2.out.trans (HB4.out.mono (below_size HB2.out))) | apply pw_below_drewN | apply below_drew1 | refine bS_ ?_ GE2.out)⟩
  · rw [if_neg hs] at h; cases h

def impl_Move_mirrored.e (k : Nat) : Refl.Ent G := ⟨173, [(.agg [.str, li])], .one (.agg [.str, li]), fun x => impl_Move_mirrored.f x.1 x.2⟩
theorem impl_Move_mirrored.ok (k : Nat) : Refl.EntOK Tryz.prog (impl_Move_mirrored.e k) := Refl.entOK_hand Tryz.func173 (by kernel_rfl) (fun x => by kernel_rfl) (fun y => ⟨by kernel_rfl, by kernel_rfl, by kernel_rfl, by kernel_rfl⟩) (fun x y h w => (impl_Move_mirrored.calls x.1 x.2 y.1 y.2 w h).mono fun e w' hh => ⟨hh.1, hh.2⟩)

end Go.Proofs.YtcicpmhcmlfhbaaGreatDoor.PA
