-- Written by a program of this session (wip/tools/myprint.py). Not trusted: Lean checks it.
import Derived.Test.YtojfncpjgpklhaaGreatDoorCtx
import Derived.Test.YtojfncpjgpklhaaGreatDoorPAx1
import Derived.Test.YtojfncpjgpklhaaGreatDoorPAx4
import Derived.Test.YtojfncpjgpklhaaGreatDoorPAx5
import Derived.Test.YtojfncpjgpklhaaGreatDoorPAx6
namespace Go.Proofs.YtojfncpjgpklhaaGreatDoor.PA
open Go.RowKit Go.Proofs.YtojfncpjgpklhaaGreatDoorW.PrintWords Go.Proofs.YtojfncpjgpklhaaGreatDoorW.PrintLast Go.Proofs.YtojfncpjgpklhaaGreatDoorW.PrintMore
attribute [local go_sem] max2_int min2_int max_two min_two max_three min_three max_four min_four   -- for this text's walks alone
set_option linter.unusedVariables false
set_option linter.unusedSimpArgs false

attribute [local go_sem high] eqA37
/-! ### spec_cmRoot: function 122 -/

def spec_cmRoot.l0 : Nat → ByteArray → Int → Option (ByteArray)
  | 0, _, _ => none
  | k + 1, x0, x3 => if x3 < (x0.size : Int) then (if x3 = 0 then (none) else (if (Int.tmod (x0.size : Int) x3) = 0 then (if 0 ≤ x3 then (if x3 ≤ (x0.size : Int) then (if x3 = 0 then (none) else ((spec_mvTimes.f k (x0.extract 0 (x3 : Int).toNat) (wrap64 (Int.tdiv (x0.size : Int) x3))).bind fun t211 => (if t211.toList = x0.toList then (if 0 ≤ x3 then (if x3 ≤ (x0.size : Int) then (some (x0.extract 0 (x3 : Int).toNat)) else (none)) else (none)) else (spec_cmRoot.l0 k x0 (wrap64 (x3 + 1)))))) else (none)) else (none)) else (spec_cmRoot.l0 k x0 (wrap64 (x3 + 1))))) else (some x0)

def spec_cmRoot.f (k : Nat) (a0 : ByteArray) : Option (ByteArray) := spec_cmRoot.l0 k a0 1

theorem spec_cmRoot.mono_l : ∀ k, (∀ y0 y1, LeO (spec_cmRoot.l0 k y0 y1) (spec_cmRoot.l0 (k + 1) y0 y1))
  | 0 => fun _ _ r h => by simp [spec_cmRoot.l0] at h
  | k + 1 => by
    have ih0 := spec_cmRoot.mono_l k
    · intro y0 y1
      unfold spec_cmRoot.l0
      repeat' first
      | (with_reducible exact ih0 _ _)
      | (with_reducible exact spec_mvTimes.mono _ _ _)
      | (with_reducible exact LeO.refl _)
      | (with_reducible exact LeO.none _)
      | (with_reducible refine LeO.ite ?_ ?_)
      | (with_reducible refine LeO.bind ?_ (fun _ => ?_))
      | exact ih0 _ _
      | exact spec_mvTimes.mono _ _ _
      | exact LeO.none _
      | refine LeO.ite ?_ ?_
      | refine LeO.bind ?_ (fun _ => ?_)

theorem spec_cmRoot.mono : ∀ a0 k, LeO (spec_cmRoot.f k a0) (spec_cmRoot.f (k + 1) a0) := by
  intro a0 k
  have ih0 := spec_cmRoot.mono_l k
  unfold spec_cmRoot.f
  repeat' first
      | (with_reducible exact ih0 _ _)
      | (with_reducible exact spec_mvTimes.mono _ _ _)
      | (with_reducible exact LeO.refl _)
      | (with_reducible exact LeO.none _)
      | (with_reducible refine LeO.ite ?_ ?_)
      | (with_reducible refine LeO.bind ?_ (fun _ => ?_))
      | exact ih0 _ _
      | exact spec_mvTimes.mono _ _ _
      | exact LeO.none _
      | refine LeO.ite ?_ ?_
      | refine LeO.bind ?_ (fun _ => ?_)

def spec_cmRoot.e (k : Nat) : Refl.Ent G := ⟨122, [(.c .str)], .one (.c .str), fun x => spec_cmRoot.f k x⟩
def spec_cmRoot.pl0 : Refl.Pn G (Refl.PT G (spec_cmRoot.e 0).ol) := ⟨true, 0, ⟨[(0, .v (.c .str)), (3, .v (.c li))], []⟩, fun k x => spec_cmRoot.l0 k x.1 x.2⟩
theorem spec_cmRoot.ok (k : Nat) : Refl.EntOK Tryz.prog (spec_cmRoot.e k) := Refl.ent_ok 1000000 k GC (fun k => [spec_mvTimes.e k]) (fun k => ⟨spec_mvTimes.ok k, trivial⟩) Tryz.func122 (by kernel_rfl) [spec_cmRoot.pl0] (ps := [spec_cmRoot.pl0]) (by kernel_rfl) ⟨⟨fun x => by kernel_rfl, fun k x => by kernel_rfl⟩, trivial⟩ (fun x => by kernel_rfl)

/-! ### spec_cmReduce: function 77 -/

def spec_cmReduce.f (k : Nat) (a0_0 : Int) (a0_1 : Int) (a0_2 : Int) (a0_3 : Int) (a0_4 : Int) (a0_5 : Bool) (a0_6 : Int) (a0_7 : Int) (a0_8 : Int) (a0_9 : Int) (a0_10 : Bool) (a0_11 : ByteArray) (a0_12 : Int) (a0_13 : Bool) (a0_14 : Int) (a0_15 : Int) (a0_16 : Int) (a0_17 : Int) (a0_18 : Int) (a0_19 : Bool) (a0_20 : Int) (a0_21 : Int) (a0_22 : Int) (a0_23 : Int) (a0_24 : Bool) (a0_25 : ByteArray) (a0_26 : Int) : Option (Int × Int × Int × Int × Int × Bool × Int × Int × Int × Int × Bool × ByteArray × Int × Bool × Int × Int × Int × Int × Int × Bool × Int × Int × Int × Int × Bool × ByteArray × Int) := (spec_mvAll.f k a0_11 a0_12).bind fun t214 => ((spec_cmRoot.f k t214).bind fun t215 => (if a0_13 = true then ((spec_mvAll.f k a0_25 a0_26).bind fun t216 => ((spec_cmRoot.f k t216).bind fun t217 => (some (a0_0, a0_1, a0_2, a0_3, a0_4, a0_5, a0_6, a0_7, a0_8, a0_9, a0_10, t215, 1, a0_13, a0_14, a0_15, a0_16, a0_17, a0_18, a0_19, a0_20, a0_21, a0_22, a0_23, a0_24, t217, 1)))) else (some (a0_0, a0_1, a0_2, a0_3, a0_4, a0_5, a0_6, a0_7, a0_8, a0_9, a0_10, t215, 1, a0_13, a0_14, a0_15, a0_16, a0_17, a0_18, a0_19, a0_20, a0_21, a0_22, a0_23, a0_24, a0_25, a0_26))))

theorem spec_cmReduce.mono : ∀ a0 a1 a2 a3 a4 a5 a6 a7 a8 a9 a10 a11 a12 a13 a14 a15 a16 a17 a18 a19 a20 a21 a22 a23 a24 a25 a26 k, LeO (spec_cmReduce.f k a0 a1 a2 a3 a4 a5 a6 a7 a8 a9 a10 a11 a12 a13 a14 a15 a16 a17 a18 a19 a20 a21 a22 a23 a24 a25 a26) (spec_cmReduce.f (k + 1) a0 a1 a2 a3 a4 a5 a6 a7 a8 a9 a10 a11 a12 a13 a14 a15 a16 a17 a18 a19 a20 a21 a22 a23 a24 a25 a26) := by
  intro a0 a1 a2 a3 a4 a5 a6 a7 a8 a9 a10 a11 a12 a13 a14 a15 a16 a17 a18 a19 a20 a21 a22 a23 a24 a25 a26 k
  unfold spec_cmReduce.f
  repeat' first
      | (with_reducible exact spec_cmRoot.mono _ _)
      | (with_reducible exact spec_mvAll.mono _ _ _)
      | (with_reducible exact LeO.refl _)
      | (with_reducible exact LeO.none _)
      | (with_reducible refine LeO.ite ?_ ?_)
      | (with_reducible refine LeO.bind ?_ (fun _ => ?_))
      | exact spec_cmRoot.mono _ _
      | exact spec_mvAll.mono _ _ _
      | exact LeO.none _
      | refine LeO.ite ?_ ?_
      | refine LeO.bind ?_ (fun _ => ?_)

def spec_cmReduce.e (k : Nat) : Refl.Ent G := ⟨77, [(.agg gL1)], .one (.agg gL1), fun x => spec_cmReduce.f k x.1 x.2.1 x.2.2.1 x.2.2.2.1 x.2.2.2.2.1 x.2.2.2.2.2.1 x.2.2.2.2.2.2.1 x.2.2.2.2.2.2.2.1 x.2.2.2.2.2.2.2.2.1 x.2.2.2.2.2.2.2.2.2.1 x.2.2.2.2.2.2.2.2.2.2.1 x.2.2.2.2.2.2.2.2.2.2.2.1 x.2.2.2.2.2.2.2.2.2.2.2.2.1 x.2.2.2.2.2.2.2.2.2.2.2.2.2.1 x.2.2.2.2.2.2.2.2.2.2.2.2.2.2.1 x.2.2.2.2.2.2.2.2.2.2.2.2.2.2.2.1 x.2.2.2.2.2.2.2.2.2.2.2.2.2.2.2.2.1 x.2.2.2.2.2.2.2.2.2.2.2.2.2.2.2.2.2.1 x.2.2.2.2.2.2.2.2.2.2.2.2.2.2.2.2.2.2.1 x.2.2.2.2.2.2.2.2.2.2.2.2.2.2.2.2.2.2.2.1 x.2.2.2.2.2.2.2.2.2.2.2.2.2.2.2.2.2.2.2.2.1 x.2.2.2.2.2.2.2.2.2.2.2.2.2.2.2.2.2.2.2.2.2.1 x.2.2.2.2.2.2.2.2.2.2.2.2.2.2.2.2.2.2.2.2.2.2.1 x.2.2.2.2.2.2.2.2.2.2.2.2.2.2.2.2.2.2.2.2.2.2.2.1 x.2.2.2.2.2.2.2.2.2.2.2.2.2.2.2.2.2.2.2.2.2.2.2.2.1 x.2.2.2.2.2.2.2.2.2.2.2.2.2.2.2.2.2.2.2.2.2.2.2.2.2.1 x.2.2.2.2.2.2.2.2.2.2.2.2.2.2.2.2.2.2.2.2.2.2.2.2.2.2⟩
theorem spec_cmReduce.ok (k : Nat) : Refl.EntOK Tryz.prog (spec_cmReduce.e k) := Refl.ent_ok 1000000 k GC (fun k => [spec_mvAll.e k, spec_cmRoot.e k]) (fun k => ⟨spec_mvAll.ok k, spec_cmRoot.ok k, trivial⟩) Tryz.func77 (by kernel_rfl) [] (ps := []) (by kernel_rfl) trivial (fun x => by kernel_rfl)

/-! ### spec_cmOf: function 41 -/

def spec_cmOf.l0 : Nat → List (S44) → List (S44) → List (S44) → Int → Int → Option ((List (S44)))
  | 0, _, _, _, _, _ => none
  | k + 1, x0, x3, x6, x7, x8 => if x8 < x7 then (if 0 ≤ x8 then (if x8 < (x6.length : Int) then (if (wrap64 (x8 + 1)) < (x0.length : Int) then ((spec_cmReduce.f k ((rd_T44 x6 x8).f0.f0.f0) ((rd_T44 x6 x8).f0.f0.f1) ((rd_T44 x6 x8).f0.f0.f2) ((rd_T44 x6 x8).f0.f0.f3) ((rd_T44 x6 x8).f0.f0.f4) ((rd_T44 x6 x8).f0.f0.f5) ((rd_T44 x6 x8).f0.f1.f0) ((rd_T44 x6 x8).f0.f1.f1) ((rd_T44 x6 x8).f0.f2.f0) ((rd_T44 x6 x8).f0.f2.f1) ((rd_T44 x6 x8).f0.f2.f2) ((rd_T44 x6 x8).f0.f3.f0) ((rd_T44 x6 x8).f0.f3.f1) ((rd_T44 x6 x8).f1) ((rd_T44 x6 x8).f2.f0.f0) ((rd_T44 x6 x8).f2.f0.f1) ((rd_T44 x6 x8).f2.f0.f2) ((rd_T44 x6 x8).f2.f0.f3) ((rd_T44 x6 x8).f2.f0.f4) ((rd_T44 x6 x8).f2.f0.f5) ((rd_T44 x6 x8).f2.f1.f0) ((rd_T44 x6 x8).f2.f1.f1) ((rd_T44 x6 x8).f2.f2.f0) ((rd_T44 x6 x8).f2.f2.f1) ((rd_T44 x6 x8).f2.f2.f2) ((rd_T44 x6 x8).f2.f3.f0) ((rd_T44 x6 x8).f2.f3.f1)).bind fun bt220 => (if x3.length < 606627104979 then (spec_cmOf.l0 k x0 (x3 ++ [(⟨(⟨(⟨bt220.1, bt220.2.1, bt220.2.2.1, bt220.2.2.2.1, bt220.2.2.2.2.1, bt220.2.2.2.2.2.1⟩ : S37), (⟨bt220.2.2.2.2.2.2.1, bt220.2.2.2.2.2.2.2.1⟩ : S38), (⟨bt220.2.2.2.2.2.2.2.2.1, bt220.2.2.2.2.2.2.2.2.2.1, bt220.2.2.2.2.2.2.2.2.2.2.1⟩ : S39), (⟨bt220.2.2.2.2.2.2.2.2.2.2.2.1, bt220.2.2.2.2.2.2.2.2.2.2.2.2.1⟩ : S40)⟩ : S42), bt220.2.2.2.2.2.2.2.2.2.2.2.2.2.1, (⟨(⟨bt220.2.2.2.2.2.2.2.2.2.2.2.2.2.2.1, bt220.2.2.2.2.2.2.2.2.2.2.2.2.2.2.2.1, bt220.2.2.2.2.2.2.2.2.2.2.2.2.2.2.2.2.1, bt220.2.2.2.2.2.2.2.2.2.2.2.2.2.2.2.2.2.1, bt220.2.2.2.2.2.2.2.2.2.2.2.2.2.2.2.2.2.2.1, bt220.2.2.2.2.2.2.2.2.2.2.2.2.2.2.2.2.2.2.2.1⟩ : S37), (⟨bt220.2.2.2.2.2.2.2.2.2.2.2.2.2.2.2.2.2.2.2.2.1, bt220.2.2.2.2.2.2.2.2.2.2.2.2.2.2.2.2.2.2.2.2.2.1⟩ : S38), (⟨bt220.2.2.2.2.2.2.2.2.2.2.2.2.2.2.2.2.2.2.2.2.2.2.1, bt220.2.2.2.2.2.2.2.2.2.2.2.2.2.2.2.2.2.2.2.2.2.2.2.1, bt220.2.2.2.2.2.2.2.2.2.2.2.2.2.2.2.2.2.2.2.2.2.2.2.2.1⟩ : S39), (⟨bt220.2.2.2.2.2.2.2.2.2.2.2.2.2.2.2.2.2.2.2.2.2.2.2.2.2.1, bt220.2.2.2.2.2.2.2.2.2.2.2.2.2.2.2.2.2.2.2.2.2.2.2.2.2.2⟩ : S40)⟩ : S42)⟩ : S44)]) x6 x7 (wrap64 (x8 + 1))) else (none))) else (if x3.length < 606627104979 then (spec_cmOf.l0 k x0 (x3 ++ [(⟨(⟨(⟨(rd_T44 x6 x8).f0.f0.f0, (rd_T44 x6 x8).f0.f0.f1, (rd_T44 x6 x8).f0.f0.f2, (rd_T44 x6 x8).f0.f0.f3, (rd_T44 x6 x8).f0.f0.f4, (rd_T44 x6 x8).f0.f0.f5⟩ : S37), (⟨(rd_T44 x6 x8).f0.f1.f0, (rd_T44 x6 x8).f0.f1.f1⟩ : S38), (⟨(rd_T44 x6 x8).f0.f2.f0, (rd_T44 x6 x8).f0.f2.f1, (rd_T44 x6 x8).f0.f2.f2⟩ : S39), (⟨(rd_T44 x6 x8).f0.f3.f0, (rd_T44 x6 x8).f0.f3.f1⟩ : S40)⟩ : S42), (rd_T44 x6 x8).f1, (⟨(⟨(rd_T44 x6 x8).f2.f0.f0, (rd_T44 x6 x8).f2.f0.f1, (rd_T44 x6 x8).f2.f0.f2, (rd_T44 x6 x8).f2.f0.f3, (rd_T44 x6 x8).f2.f0.f4, (rd_T44 x6 x8).f2.f0.f5⟩ : S37), (⟨(rd_T44 x6 x8).f2.f1.f0, (rd_T44 x6 x8).f2.f1.f1⟩ : S38), (⟨(rd_T44 x6 x8).f2.f2.f0, (rd_T44 x6 x8).f2.f2.f1, (rd_T44 x6 x8).f2.f2.f2⟩ : S39), (⟨(rd_T44 x6 x8).f2.f3.f0, (rd_T44 x6 x8).f2.f3.f1⟩ : S40)⟩ : S42)⟩ : S44)]) x6 x7 (wrap64 (x8 + 1))) else (none))) else (none)) else (none)) else (some x3)

def spec_cmOf.f (k : Nat) (l0 : List (S44)) : Option ((List (S44))) := spec_cmOf.l0 k l0 ([] : List (S44)) l0 (l0.length : Int) 0

theorem spec_cmOf.mono_l : ∀ k, (∀ y0 y1 y2 y3 y4, LeO (spec_cmOf.l0 k y0 y1 y2 y3 y4) (spec_cmOf.l0 (k + 1) y0 y1 y2 y3 y4))
  | 0 => fun _ _ _ _ _ r h => by simp [spec_cmOf.l0] at h
  | k + 1 => by
    have ih0 := spec_cmOf.mono_l k
    · intro y0 y1 y2 y3 y4
      unfold spec_cmOf.l0
      repeat' first
      | (with_reducible exact ih0 _ _ _ _ _)
      | (with_reducible exact spec_cmReduce.mono _ _ _ _ _ _ _ _ _ _ _ _ _ _ _ _ _ _ _ _ _ _ _ _ _ _ _ _)
      | (with_reducible exact LeO.refl _)
      | (with_reducible exact LeO.none _)
      | (with_reducible refine LeO.ite ?_ ?_)
      | (with_reducible refine LeO.bind ?_ (fun _ => ?_))
      | exact ih0 _ _ _ _ _
      | exact spec_cmReduce.mono _ _ _ _ _ _ _ _ _ _ _ _ _ _ _ _ _ _ _ _ _ _ _ _ _ _ _ _
      | exact LeO.none _
      | refine LeO.ite ?_ ?_
      | refine LeO.bind ?_ (fun _ => ?_)

theorem spec_cmOf.mono : ∀ a0 k, LeO (spec_cmOf.f k a0) (spec_cmOf.f (k + 1) a0) := by
  intro a0 k
  have ih0 := spec_cmOf.mono_l k
  unfold spec_cmOf.f
  repeat' first
      | (with_reducible exact ih0 _ _ _ _ _)
      | (with_reducible exact spec_cmReduce.mono _ _ _ _ _ _ _ _ _ _ _ _ _ _ _ _ _ _ _ _ _ _ _ _ _ _ _ _)
      | (with_reducible exact LeO.refl _)
      | (with_reducible exact LeO.none _)
      | (with_reducible refine LeO.ite ?_ ?_)
      | (with_reducible refine LeO.bind ?_ (fun _ => ?_))
      | exact ih0 _ _ _ _ _
      | exact spec_cmReduce.mono _ _ _ _ _ _ _ _ _ _ _ _ _ _ _ _ _ _ _ _ _ _ _ _ _ _ _ _
      | exact LeO.none _
      | refine LeO.ite ?_ ?_
      | refine LeO.bind ?_ (fun _ => ?_)

def spec_cmOf.e (k : Nat) : Refl.Ent G := ⟨41, [(.c (.row 44 false))], .one (.c (.row 44 true)), fun x => spec_cmOf.f k x⟩
def spec_cmOf.pl0 : Refl.Pn G (Refl.PT G (spec_cmOf.e 0).ol) := ⟨true, 0, ⟨[(0, .v (.c (.row 44 false))), (3, .v (.c (.row 44 true))), (6, .v (.c (.row 44 false))), (7, .v (.c li)), (8, .v (.c li))], []⟩, fun k x => spec_cmOf.l0 k x.1 x.2.1 x.2.2.1 x.2.2.2.1 x.2.2.2.2⟩
theorem spec_cmOf.ok (k : Nat) : Refl.EntOK Tryz.prog (spec_cmOf.e k) := Refl.ent_ok 1000000 k GC (fun k => [spec_cmReduce.e k]) (fun k => ⟨spec_cmReduce.ok k, trivial⟩) Tryz.func41 (by kernel_rfl) [spec_cmOf.pl0] (ps := [spec_cmOf.pl0]) (by kernel_rfl) ⟨⟨fun x => by kernel_rfl, fun k x => by kernel_rfl⟩, trivial⟩ (fun x => by kernel_rfl)

/-! ### spec_IsReduced: function 14 -/

def spec_IsReduced.f (k : Nat) (l0 : List (S44)) : Option (Bool × Bool) := (spec_cmGood.f k l0).bind fun t253 => (if t253 = true then ((spec_cmOf.f k l0).bind fun t254 => ((spec_cmSame.f k t254 l0).bind fun t257 => (some (t257, true)))) else (some (false, false)))

theorem spec_IsReduced.mono : ∀ a0 k, LeO (spec_IsReduced.f k a0) (spec_IsReduced.f (k + 1) a0) := by
  intro a0 k
  unfold spec_IsReduced.f
  repeat' first
      | (with_reducible exact spec_cmGood.mono _ _)
      | (with_reducible exact spec_cmOf.mono _ _)
      | (with_reducible exact spec_cmSame.mono _ _ _)
      | (with_reducible exact LeO.refl _)
      | (with_reducible exact LeO.none _)
      | (with_reducible refine LeO.ite ?_ ?_)
      | (with_reducible refine LeO.bind ?_ (fun _ => ?_))
      | exact spec_cmGood.mono _ _
      | exact spec_cmOf.mono _ _
      | exact spec_cmSame.mono _ _ _
      | exact LeO.none _
      | refine LeO.ite ?_ ?_
      | refine LeO.bind ?_ (fun _ => ?_)

def spec_IsReduced.e (k : Nat) : Refl.Ent G := ⟨14, [(.c (.row 44 false))], .tup [(.c .bool), (.c .bool)], fun x => spec_IsReduced.f k x⟩
theorem spec_IsReduced.ok (k : Nat) : Refl.EntOK Tryz.prog (spec_IsReduced.e k) := Refl.ent_ok 1000000 k GC (fun k => [spec_cmGood.e k, spec_cmOf.e k, spec_cmSame.e k]) (fun k => ⟨spec_cmGood.ok k, spec_cmOf.ok k, spec_cmSame.ok k, trivial⟩) Tryz.func14 (by kernel_rfl) [] (ps := []) (by kernel_rfl) trivial (fun x => by kernel_rfl)

/-! ### laws_toShape: function 66 -/

def laws_toShape.f (a0_0 : Int) (a0_1 : Int) (a0_2 : Int) (a0_3 : Int) (a0_4 : Int) (a0_5 : Bool) : Option (Int × Int × Int × Int × Int × Bool) := some (a0_0, a0_1, a0_2, a0_3, a0_4, a0_5)

def laws_toShape.e (k : Nat) : Refl.Ent G := ⟨66, [(.agg [li, li, li, li, li, .bool])], .one (.agg [li, li, li, li, li, .bool]), fun x => laws_toShape.f x.1 x.2.1 x.2.2.1 x.2.2.2.1 x.2.2.2.2.1 x.2.2.2.2.2⟩
theorem laws_toShape.ok (k : Nat) : Refl.EntOK Tryz.prog (laws_toShape.e k) := Refl.ent_ok 1000000 k GC (fun k => []) (fun k => trivial) Tryz.func66 (by kernel_rfl) [] (ps := []) (by kernel_rfl) trivial (fun x => by kernel_rfl)

/-! ### laws_toOrient: function 67 -/

def laws_toOrient.f (a0_0 : Int) (a0_1 : Int) : Option (Int × Int) := some (a0_0, a0_1)

def laws_toOrient.e (k : Nat) : Refl.Ent G := ⟨67, [(.agg [li, li])], .one (.agg [li, li]), fun x => laws_toOrient.f x.1 x.2⟩
theorem laws_toOrient.ok (k : Nat) : Refl.EntOK Tryz.prog (laws_toOrient.e k) := Refl.ent_ok 1000000 k GC (fun k => []) (fun k => trivial) Tryz.func67 (by kernel_rfl) [] (ps := []) (by kernel_rfl) trivial (fun x => by kernel_rfl)

/-! ### laws_toPlace: function 68 -/

def laws_toPlace.f (a0_0 : Int) (a0_1 : Int) (a0_2 : Bool) : Option (Int × Int × Bool) := some (a0_0, a0_1, a0_2)

def laws_toPlace.e (k : Nat) : Refl.Ent G := ⟨68, [(.agg [li, li, .bool])], .one (.agg [li, li, .bool]), fun x => laws_toPlace.f x.1 x.2.1 x.2.2⟩
theorem laws_toPlace.ok (k : Nat) : Refl.EntOK Tryz.prog (laws_toPlace.e k) := Refl.ent_ok 1000000 k GC (fun k => []) (fun k => trivial) Tryz.func68 (by kernel_rfl) [] (ps := []) (by kernel_rfl) trivial (fun x => by kernel_rfl)

/-! ### laws_toMove: function 69 -/

def laws_toMove.f (a0_0 : ByteArray) (a0_1 : Int) : Option (ByteArray × Int) := some (a0_0, a0_1)

def laws_toMove.e (k : Nat) : Refl.Ent G := ⟨69, [(.agg [.str, li])], .one (.agg [.str, li]), fun x => laws_toMove.f x.1 x.2⟩
theorem laws_toMove.ok (k : Nat) : Refl.EntOK Tryz.prog (laws_toMove.e k) := Refl.ent_ok 1000000 k GC (fun k => []) (fun k => trivial) Tryz.func69 (by kernel_rfl) [] (ps := []) (by kernel_rfl) trivial (fun x => by kernel_rfl)

/-! ### laws_toHand: function 36 -/

def laws_toHand.f (a0_0 : Int) (a0_1 : Int) (a0_2 : Int) (a0_3 : Int) (a0_4 : Int) (a0_5 : Bool) (a0_6 : Int) (a0_7 : Int) (a0_8 : Int) (a0_9 : Int) (a0_10 : Bool) (a0_11 : ByteArray) (a0_12 : Int) : Option (Int × Int × Int × Int × Int × Bool × Int × Int × Int × Int × Bool × ByteArray × Int) := (laws_toShape.f a0_0 a0_1 a0_2 a0_3 a0_4 a0_5).bind fun bt273 => ((laws_toOrient.f a0_6 a0_7).bind fun bt279 => ((laws_toPlace.f a0_8 a0_9 a0_10).bind fun bt281 => ((laws_toMove.f a0_11 a0_12).bind fun bt284 => (some (bt273.1, bt273.2.1, bt273.2.2.1, bt273.2.2.2.1, bt273.2.2.2.2.1, bt273.2.2.2.2.2, bt279.1, bt279.2, bt281.1, bt281.2.1, bt281.2.2, bt284.1, bt284.2)))))

def laws_toHand.e (k : Nat) : Refl.Ent G := ⟨36, [(.agg gL0)], .one (.agg gL0), fun x => laws_toHand.f x.1 x.2.1 x.2.2.1 x.2.2.2.1 x.2.2.2.2.1 x.2.2.2.2.2.1 x.2.2.2.2.2.2.1 x.2.2.2.2.2.2.2.1 x.2.2.2.2.2.2.2.2.1 x.2.2.2.2.2.2.2.2.2.1 x.2.2.2.2.2.2.2.2.2.2.1 x.2.2.2.2.2.2.2.2.2.2.2.1 x.2.2.2.2.2.2.2.2.2.2.2.2⟩
theorem laws_toHand.ok (k : Nat) : Refl.EntOK Tryz.prog (laws_toHand.e k) := Refl.ent_ok 1000000 k GC (fun k => [laws_toShape.e k, laws_toOrient.e k, laws_toPlace.e k, laws_toMove.e k]) (fun k => ⟨laws_toShape.ok k, laws_toOrient.ok k, laws_toPlace.ok k, laws_toMove.ok k, trivial⟩) Tryz.func36 (by kernel_rfl) [] (ps := []) (by kernel_rfl) trivial (fun x => by kernel_rfl)

/-! ### laws_toSign: function 11 -/

def laws_toSign.f (a0_0 : Int) (a0_1 : Int) (a0_2 : Int) (a0_3 : Int) (a0_4 : Int) (a0_5 : Bool) (a0_6 : Int) (a0_7 : Int) (a0_8 : Int) (a0_9 : Int) (a0_10 : Bool) (a0_11 : ByteArray) (a0_12 : Int) (a0_13 : Bool) (a0_14 : Int) (a0_15 : Int) (a0_16 : Int) (a0_17 : Int) (a0_18 : Int) (a0_19 : Bool) (a0_20 : Int) (a0_21 : Int) (a0_22 : Int) (a0_23 : Int) (a0_24 : Bool) (a0_25 : ByteArray) (a0_26 : Int) : Option (Int × Int × Int × Int × Int × Bool × Int × Int × Int × Int × Bool × ByteArray × Int × Bool × Int × Int × Int × Int × Int × Bool × Int × Int × Int × Int × Bool × ByteArray × Int) := (laws_toHand.f a0_0 a0_1 a0_2 a0_3 a0_4 a0_5 a0_6 a0_7 a0_8 a0_9 a0_10 a0_11 a0_12).bind fun x => (laws_toHand.f a0_14 a0_15 a0_16 a0_17 a0_18 a0_19 a0_20 a0_21 a0_22 a0_23 a0_24 a0_25 a0_26).bind fun y => some (x.1, x.2.1, x.2.2.1, x.2.2.2.1, x.2.2.2.2.1, x.2.2.2.2.2.1, x.2.2.2.2.2.2.1, x.2.2.2.2.2.2.2.1, x.2.2.2.2.2.2.2.2.1, x.2.2.2.2.2.2.2.2.2.1, x.2.2.2.2.2.2.2.2.2.2.1, x.2.2.2.2.2.2.2.2.2.2.2.1, x.2.2.2.2.2.2.2.2.2.2.2.2, a0_13, y.1, y.2.1, y.2.2.1, y.2.2.2.1, y.2.2.2.2.1, y.2.2.2.2.2.1, y.2.2.2.2.2.2.1, y.2.2.2.2.2.2.2.1, y.2.2.2.2.2.2.2.2.1, y.2.2.2.2.2.2.2.2.2.1, y.2.2.2.2.2.2.2.2.2.2.1, y.2.2.2.2.2.2.2.2.2.2.2.1, y.2.2.2.2.2.2.2.2.2.2.2.2)

def laws_toSign.e (k : Nat) : Refl.Ent G := ⟨11, [(.agg gL1)], .one (.agg gL1), fun x => laws_toSign.f x.1 x.2.1 x.2.2.1 x.2.2.2.1 x.2.2.2.2.1 x.2.2.2.2.2.1 x.2.2.2.2.2.2.1 x.2.2.2.2.2.2.2.1 x.2.2.2.2.2.2.2.2.1 x.2.2.2.2.2.2.2.2.2.1 x.2.2.2.2.2.2.2.2.2.2.1 x.2.2.2.2.2.2.2.2.2.2.2.1 x.2.2.2.2.2.2.2.2.2.2.2.2.1 x.2.2.2.2.2.2.2.2.2.2.2.2.2.1 x.2.2.2.2.2.2.2.2.2.2.2.2.2.2.1 x.2.2.2.2.2.2.2.2.2.2.2.2.2.2.2.1 x.2.2.2.2.2.2.2.2.2.2.2.2.2.2.2.2.1 x.2.2.2.2.2.2.2.2.2.2.2.2.2.2.2.2.2.1 x.2.2.2.2.2.2.2.2.2.2.2.2.2.2.2.2.2.2.1 x.2.2.2.2.2.2.2.2.2.2.2.2.2.2.2.2.2.2.2.1 x.2.2.2.2.2.2.2.2.2.2.2.2.2.2.2.2.2.2.2.2.1 x.2.2.2.2.2.2.2.2.2.2.2.2.2.2.2.2.2.2.2.2.2.1 x.2.2.2.2.2.2.2.2.2.2.2.2.2.2.2.2.2.2.2.2.2.2.1 x.2.2.2.2.2.2.2.2.2.2.2.2.2.2.2.2.2.2.2.2.2.2.2.1 x.2.2.2.2.2.2.2.2.2.2.2.2.2.2.2.2.2.2.2.2.2.2.2.2.1 x.2.2.2.2.2.2.2.2.2.2.2.2.2.2.2.2.2.2.2.2.2.2.2.2.2.1 x.2.2.2.2.2.2.2.2.2.2.2.2.2.2.2.2.2.2.2.2.2.2.2.2.2.2⟩
theorem laws_toSign.ok (k : Nat) : Refl.EntOK Tryz.prog (laws_toSign.e k) := Refl.ent_ok 1000000 k GC (fun k => [laws_toHand.e k]) (fun k => ⟨laws_toHand.ok k, trivial⟩) Tryz.func11 (by kernel_rfl) [] (ps := []) (by kernel_rfl) trivial (fun x => by kernel_rfl)

/-! ### laws_toSignS: function 15 -/

def laws_toSignS.l0 : Nat → List (S33) → List (S44) → Int → Option ((List (S44)))
  | 0, _, _, _ => none
  | k + 1, x0, x3, x4 => if x4 < (x0.length : Int) then (if 0 ≤ x4 then (if x4 < (x0.length : Int) then ((laws_toSign.f ((rd_T33 x0 x4).f0.f0.f0) ((rd_T33 x0 x4).f0.f0.f1) ((rd_T33 x0 x4).f0.f0.f2) ((rd_T33 x0 x4).f0.f0.f3) ((rd_T33 x0 x4).f0.f0.f4) ((rd_T33 x0 x4).f0.f0.f5) ((rd_T33 x0 x4).f0.f1.f0) ((rd_T33 x0 x4).f0.f1.f1) ((rd_T33 x0 x4).f0.f2.f0) ((rd_T33 x0 x4).f0.f2.f1) ((rd_T33 x0 x4).f0.f2.f2) ((rd_T33 x0 x4).f0.f3.f0) ((rd_T33 x0 x4).f0.f3.f1) ((rd_T33 x0 x4).f1) ((rd_T33 x0 x4).f2.f0.f0) ((rd_T33 x0 x4).f2.f0.f1) ((rd_T33 x0 x4).f2.f0.f2) ((rd_T33 x0 x4).f2.f0.f3) ((rd_T33 x0 x4).f2.f0.f4) ((rd_T33 x0 x4).f2.f0.f5) ((rd_T33 x0 x4).f2.f1.f0) ((rd_T33 x0 x4).f2.f1.f1) ((rd_T33 x0 x4).f2.f2.f0) ((rd_T33 x0 x4).f2.f2.f1) ((rd_T33 x0 x4).f2.f2.f2) ((rd_T33 x0 x4).f2.f3.f0) ((rd_T33 x0 x4).f2.f3.f1)).bind fun bt290 => (if 0 ≤ x4 then (if x4 < (x3.length : Int) then (laws_toSignS.l0 k x0 (x3.set (x4 : Int).toNat (⟨(⟨(⟨bt290.1, bt290.2.1, bt290.2.2.1, bt290.2.2.2.1, bt290.2.2.2.2.1, bt290.2.2.2.2.2.1⟩ : S37), (⟨bt290.2.2.2.2.2.2.1, bt290.2.2.2.2.2.2.2.1⟩ : S38), (⟨bt290.2.2.2.2.2.2.2.2.1, bt290.2.2.2.2.2.2.2.2.2.1, bt290.2.2.2.2.2.2.2.2.2.2.1⟩ : S39), (⟨bt290.2.2.2.2.2.2.2.2.2.2.2.1, bt290.2.2.2.2.2.2.2.2.2.2.2.2.1⟩ : S40)⟩ : S42), bt290.2.2.2.2.2.2.2.2.2.2.2.2.2.1, (⟨(⟨bt290.2.2.2.2.2.2.2.2.2.2.2.2.2.2.1, bt290.2.2.2.2.2.2.2.2.2.2.2.2.2.2.2.1, bt290.2.2.2.2.2.2.2.2.2.2.2.2.2.2.2.2.1, bt290.2.2.2.2.2.2.2.2.2.2.2.2.2.2.2.2.2.1, bt290.2.2.2.2.2.2.2.2.2.2.2.2.2.2.2.2.2.2.1, bt290.2.2.2.2.2.2.2.2.2.2.2.2.2.2.2.2.2.2.2.1⟩ : S37), (⟨bt290.2.2.2.2.2.2.2.2.2.2.2.2.2.2.2.2.2.2.2.2.1, bt290.2.2.2.2.2.2.2.2.2.2.2.2.2.2.2.2.2.2.2.2.2.1⟩ : S38), (⟨bt290.2.2.2.2.2.2.2.2.2.2.2.2.2.2.2.2.2.2.2.2.2.2.1, bt290.2.2.2.2.2.2.2.2.2.2.2.2.2.2.2.2.2.2.2.2.2.2.2.1, bt290.2.2.2.2.2.2.2.2.2.2.2.2.2.2.2.2.2.2.2.2.2.2.2.2.1⟩ : S39), (⟨bt290.2.2.2.2.2.2.2.2.2.2.2.2.2.2.2.2.2.2.2.2.2.2.2.2.2.1, bt290.2.2.2.2.2.2.2.2.2.2.2.2.2.2.2.2.2.2.2.2.2.2.2.2.2.2⟩ : S40)⟩ : S42)⟩ : S44)) (wrap64 (x4 + 1))) else (none)) else (none))) else (none)) else (none)) else (some x3)

def laws_toSignS.f (k : Nat) (l0 : List (S33)) : Option ((List (S44))) := if 0 ≤ (l0.length : Int) then (if ((l0.length : Int) : Int).toNat ≤ 1213254209959 then (laws_toSignS.l0 k l0 (List.replicate ((l0.length : Int) : Int).toNat z44) 0) else (none)) else (none)

theorem laws_toSignS.mono_l : ∀ k, (∀ y0 y1 y2, LeO (laws_toSignS.l0 k y0 y1 y2) (laws_toSignS.l0 (k + 1) y0 y1 y2))
  | 0 => fun _ _ _ r h => by simp [laws_toSignS.l0] at h
  | k + 1 => by
    have ih0 := laws_toSignS.mono_l k
    · intro y0 y1 y2
      unfold laws_toSignS.l0
      repeat' first
      | (with_reducible exact ih0 _ _ _)
      | (with_reducible exact LeO.refl _)
      | (with_reducible exact LeO.none _)
      | (with_reducible refine LeO.ite ?_ ?_)
      | (with_reducible refine LeO.bind ?_ (fun _ => ?_))
      | exact ih0 _ _ _
      | exact LeO.none _
      | refine LeO.ite ?_ ?_
      | refine LeO.bind ?_ (fun _ => ?_)

theorem laws_toSignS.mono : ∀ a0 k, LeO (laws_toSignS.f k a0) (laws_toSignS.f (k + 1) a0) := by
  intro a0 k
  have ih0 := laws_toSignS.mono_l k
  unfold laws_toSignS.f
  repeat' first
      | (with_reducible exact ih0 _ _ _)
      | (with_reducible exact LeO.refl _)
      | (with_reducible exact LeO.none _)
      | (with_reducible refine LeO.ite ?_ ?_)
      | (with_reducible refine LeO.bind ?_ (fun _ => ?_))
      | exact ih0 _ _ _
      | exact LeO.none _
      | refine LeO.ite ?_ ?_
      | refine LeO.bind ?_ (fun _ => ?_)

def laws_toSignS.e (k : Nat) : Refl.Ent G := ⟨15, [(.c (.row 33 false))], .one (.c (.row 44 false)), fun x => laws_toSignS.f k x⟩
def laws_toSignS.pl0 : Refl.Pn G (Refl.PT G (laws_toSignS.e 0).ol) := ⟨true, 0, ⟨[(0, .v (.c (.row 33 false))), (3, .v (.c (.own 44))), (4, .v (.c li))], []⟩, fun k x => laws_toSignS.l0 k x.1 x.2.1 x.2.2⟩
theorem laws_toSignS.ok (k : Nat) : Refl.EntOK Tryz.prog (laws_toSignS.e k) := Refl.ent_ok 1000000 k GC (fun k => [laws_toSign.e k]) (fun k => ⟨laws_toSign.ok k, trivial⟩) Tryz.func15 (by kernel_rfl) [laws_toSignS.pl0] (ps := [laws_toSignS.pl0]) (by kernel_rfl) ⟨⟨fun x => by kernel_rfl, fun k x => by kernel_rfl⟩, trivial⟩ (fun x => by kernel_rfl)

/-! ### impl_Shape_bends: function 140 -/

def impl_Shape_bends.f (a0_0 : Int) (a0_1 : Int) (a0_2 : Int) (a0_3 : Int) (a0_4 : Int) (a0_5 : Bool) : Option (List Int) := some (([a0_1, a0_2, a0_3, a0_4] : List Int))

def impl_Shape_bends.e (k : Nat) : Refl.Ent G := ⟨140, [(.agg [li, li, li, li, li, .bool])], .one (.c (.row 3 true)), fun x => impl_Shape_bends.f x.1 x.2.1 x.2.2.1 x.2.2.2.1 x.2.2.2.2.1 x.2.2.2.2.2⟩
theorem impl_Shape_bends.ok (k : Nat) : Refl.EntOK Tryz.prog (impl_Shape_bends.e k) := Refl.ent_ok 1000000 k GC (fun k => []) (fun k => trivial) Tryz.func140 (by kernel_rfl) [] (ps := []) (by kernel_rfl) trivial (fun x => by kernel_rfl)

/-! ### impl_within: function 138 -/

def impl_within.f (a0 : Int) (a1 : Int) (a2 : Int) : Option (Bool) := if a0 ≥ a1 then (some (decide (a0 ≤ a2))) else (some false)

def impl_within.e (k : Nat) : Refl.Ent G := ⟨138, [(.c li), (.c li), (.c li)], .one (.c .bool), fun x => impl_within.f x.1 x.2.1 x.2.2⟩
theorem impl_within.ok (k : Nat) : Refl.EntOK Tryz.prog (impl_within.e k) := Refl.ent_ok 1000000 k GC (fun k => []) (fun k => trivial) Tryz.func138 (by kernel_rfl) [] (ps := []) (by kernel_rfl) trivial (fun x => by kernel_rfl)

/-! ### impl_allWithin: function 155 -/

def awOut (a1 a2 x : Int) : Bool := !decide (a1 ≤ x ∧ x ≤ a2)
/-- The first place with such a number, or -1. -/

def awIdx (a1 a2 : Int) : Nat → List Int → Int
  | _, [] => -1
  | i, x :: xs => if awOut a1 a2 x = true then (i : Int) else awIdx a1 a2 (i + 1) xs

def awAll (a1 a2 : Int) (l : List Int) : Bool := l.all fun x => decide (a1 ≤ x ∧ x ≤ a2)

theorem awIdx_all (a1 a2 : Int) : ∀ (l : List Int) (i : Nat), (!decide (0 ≤ awIdx a1 a2 i l)) = awAll a1 a2 l
  | [], i => by simp [awIdx, awAll]
  | x :: xs, i => by
    unfold awIdx
    by_cases h : awOut a1 a2 x = true
    · rw [if_pos h]
      unfold awOut at h
      simp only [Bool.not_eq_true'] at h
      simp only [awAll, List.all_cons, h, Bool.false_and]
      simp
    · rw [if_neg h, awIdx_all a1 a2 xs (i + 1)]
      unfold awOut at h
      simp only [Bool.not_eq_true', Bool.not_eq_false] at h
      simp only [awAll, List.all_cons, h, Bool.true_and]

theorem aw_within (a b c : Int) : impl_within.f a b c = some (decide (b ≤ a ∧ a ≤ c)) := by
  unfold impl_within.f
  by_cases h : b ≤ a
  · rw [if_pos h]; simp [h]
  · rw [if_neg h]; simp [h]

def AWFrom (a1 a2 : Int) (l : List Int) (i : Nat) (r : Int) : Prop := i ≤ l.length ∧ awIdx a1 a2 i (l.drop i) = r

theorem aw_step {a1 a2 : Int} {l : List Int} {i : Nat} {r : Int} (h : AWFrom a1 a2 l i r) (hlt : i < l.length) : (awOut a1 a2 (rd l (i : Int)) = false → AWFrom a1 a2 l (i + 1) r) ∧ (awOut a1 a2 (rd l (i : Int)) = true → r = (i : Int)) := by
  obtain ⟨_, h⟩ := h
  rw [List.drop_eq_getElem_cons hlt] at h
  unfold awIdx at h
  have e : rd l (i : Int) = l[i] := by
    unfold rd
    rw [List.getD_eq_getElem?_getD]
    simp [hlt]
  rw [e]
  refine ⟨fun e => ?_, fun e => ?_⟩
  · rw [e, if_neg (by decide)] at h; exact ⟨by omega, h⟩
  · rw [if_pos e] at h; exact h.symm

theorem aw_end {a1 a2 : Int} {l : List Int} {i : Nat} {r : Int} (h : AWFrom a1 a2 l i r) (hge : ¬ i < l.length) : r = -1 := by
  obtain ⟨hi, h⟩ := h
  rw [List.drop_eq_nil_of_le (by omega)] at h
  exact h.symm

def impl_allWithin.f (l0 : List Int) (a1 a2 : Int) : Option Bool := if l0.length ≤ 1000 then some (awAll a1 a2 l0) else none

def impl_allWithin.e (k : Nat) : Refl.Ent G := ⟨155, [(.c (.row 3 false)), (.c li), (.c li)], .one (.c .bool), fun x => impl_allWithin.f x.1 x.2.1 x.2.2⟩
def aw1.f (x a b : Int) : Option Bool := (impl_within.f x a b).bind fun t => some (!t)
def aw1.e (k : Nat) : Refl.Ent G := ⟨180, [.c li, .ref [li], .ref [li]], .one (.c .bool), fun x => aw1.f x.1 x.2.1 x.2.2⟩
theorem aw1.ok (k : Nat) : Refl.EntOK Tryz.prog (aw1.e k) := Refl.ent_ok 1000000 k GC (fun k => [impl_within.e k]) (fun k => ⟨impl_within.ok k, trivial⟩) Tryz.func180 (by kernel_rfl) [] (ps := []) (by kernel_rfl) trivial (fun x => by kernel_rfl)
def aw2.l0 : Nat → List Int → Int → Int → Int → Int → Option Int
  | 0, _, _, _, _, _ => none
  | k + 1, l, a, b, n, i => if i < n then (if 0 ≤ i then (if i < (l.length : Int) then ((aw1.f (rd l i) a b).bind fun t => if t = true then (some i) else (aw2.l0 k l a b n (wrap64 (i + 1)))) else (none)) else (none)) else (some (-1))
def aw2.f (k : Nat) (l : List Int) (a b : Int) : Option Int := aw2.l0 k l a b (l.length : Int) 0
def aw2.e (k : Nat) : Refl.Ent G := ⟨193, [.c (.row 3 false), .clo 180 [[li], [li]]], .one (.c li), fun x => aw2.f k x.1 x.2.1 x.2.2⟩
def aw2.p : Refl.Pn G (Refl.PT G (aw2.e 0).ol) := ⟨true, 0, ⟨[(0, .v (.c (.row 3 false))), (1, .v (.clo 180 [[li], [li]])), (7, .v (.c li)), (8, .v (.c li)), (4, .k (.int .i64 0))], []⟩, fun k x => aw2.l0 k x.1 x.2.1 x.2.2.1 x.2.2.2.1 x.2.2.2.2⟩
theorem aw2.ok (k : Nat) : Refl.EntOK Tryz.prog (aw2.e k) := Refl.ent_ok 1000000 k GC (fun k => [aw1.e k]) (fun k => ⟨aw1.ok k, trivial⟩) Tryz.func193 (by kernel_rfl) [aw2.p] (ps := [aw2.p]) (by kernel_rfl) ⟨⟨fun x => by kernel_rfl, fun k x => by kernel_rfl⟩, trivial⟩ (fun x => by kernel_rfl)
def aw3.f (k : Nat) (l : List Int) (a b : Int) : Option Bool := (aw2.f k l a b).bind fun t => some (decide (t ≥ 0))
def aw3.e (k : Nat) : Refl.Ent G := ⟨179, [.c (.row 3 false), .clo 180 [[li], [li]]], .one (.c .bool), fun x => aw3.f k x.1 x.2.1 x.2.2⟩
theorem aw3.ok (k : Nat) : Refl.EntOK Tryz.prog (aw3.e k) := Refl.ent_ok 1000000 k GC (fun k => [aw2.e k]) (fun k => ⟨aw2.ok k, trivial⟩) Tryz.func179 (by kernel_rfl) [] (ps := []) (by kernel_rfl) trivial (fun x => by kernel_rfl)
def aw0.f (k : Nat) (l : List Int) (a b : Int) : Option Bool := (aw3.f k l a b).bind fun t => some (!t)
def aw0.e (k : Nat) : Refl.Ent G := ⟨155, [.c (.row 3 false), .c li, .c li], .one (.c .bool), fun x => aw0.f k x.1 x.2.1 x.2.2⟩
theorem aw0.ok (k : Nat) : Refl.EntOK Tryz.prog (aw0.e k) := Refl.ent_ok 1000000 k GC (fun k => [aw3.e k]) (fun k => ⟨aw3.ok k, trivial⟩) Tryz.func155 (by kernel_rfl) [] (ps := []) (by kernel_rfl) trivial (fun x => by kernel_rfl)
theorem aw1_eq (x a b : Int) : aw1.f x a b = some (awOut a b x) := by
  unfold aw1.f awOut
  rw [aw_within]
  rfl
theorem aw2_eq (l : List Int) (a b : Int) (hl : l.length ≤ 1000) : ∀ (k i : Nat), l.length - i < k → i ≤ l.length → aw2.l0 k l a b (l.length : Int) (i : Int) = some (awIdx a b i (l.drop i))
  | 0, i, h, _ => by omega
  | k + 1, i, h, hi => by
    unfold aw2.l0
    by_cases hlt : i < l.length
    · have hd := List.drop_eq_getElem_cons hlt
      rw [if_pos (by omega), if_pos (by omega), if_pos (by omega), aw1_eq]
      have e : rd l (i : Int) = l[i] := by
        unfold rd
        rw [List.getD_eq_getElem?_getD]
        simp [hlt]
      rw [e, hd]
      simp only [Option.bind_some, awIdx]
      by_cases ho : awOut a b l[i] = true
      · rw [if_pos ho, if_pos ho]
      · rw [if_neg ho, if_neg ho, show wrap64 ((i : Int) + 1) = ((i + 1 : Nat) : Int) from by unfold wrap64; omega]
        exact aw2_eq l a b hl k (i + 1) (by omega) (by omega)
    · rw [if_neg (by omega), List.drop_eq_nil_of_le (by omega)]
      rfl
theorem impl_allWithin.ok (k : Nat) : Refl.EntOK Tryz.prog (impl_allWithin.e k) := (aw0.ok 1002).weaken _ fun x y h => by
  obtain ⟨l, a, b⟩ := x
  have h : impl_allWithin.f l a b = some y := h
  show aw0.f 1002 l a b = some y
  unfold impl_allWithin.f at h
  split at h
  · rename_i hl
    have := aw2_eq l a b hl 1002 0 (by omega) (by omega)
    unfold aw0.f aw3.f aw2.f
    rw [show ((0 : Nat) : Int) = 0 from rfl] at this
    rw [this, ← h, ← awIdx_all a b l 0]
    rfl
  · cases h

/-! ### impl_Shape_maySpread: function 156 -/

def impl_Shape_maySpread.f (a0_0 : Int) (a0_1 : Int) (a0_2 : Int) (a0_3 : Int) (a0_4 : Int) (a0_5 : Bool) : Option (Bool) := if a0_2 = 0 then (if a0_1 = 0 then (some true) else (if a0_3 = 0 then (some true) else (if a0_3 = 0 then (some (a0_4 == 0)) else (some false)))) else (if a0_3 = 0 then (some (a0_4 == 0)) else (some false))

def impl_Shape_maySpread.e (k : Nat) : Refl.Ent G := ⟨156, [(.agg [li, li, li, li, li, .bool])], .one (.c .bool), fun x => impl_Shape_maySpread.f x.1 x.2.1 x.2.2.1 x.2.2.2.1 x.2.2.2.2.1 x.2.2.2.2.2⟩
theorem impl_Shape_maySpread.ok (k : Nat) : Refl.EntOK Tryz.prog (impl_Shape_maySpread.e k) := Refl.ent_ok 1000000 k GC (fun k => []) (fun k => trivial) Tryz.func156 (by kernel_rfl) [] (ps := []) (by kernel_rfl) trivial (fun x => by kernel_rfl)

/-! ### impl_IsShape: function 107 -/

def impl_IsShape.f (a0_0 : Int) (a0_1 : Int) (a0_2 : Int) (a0_3 : Int) (a0_4 : Int) (a0_5 : Bool) : Option (Bool) := (some (([a0_0] : List Int) : List Int)).bind fun y324 => ((impl_Shape_bends.f a0_0 a0_1 a0_2 a0_3 a0_4 a0_5).bind fun t327 => (if y324.length + t327.length < 17592186044416 then ((impl_allWithin.f (y324 ++ t327) 0 2).bind fun t333 => (if t333 = true then (if a0_5 = true then ((impl_Shape_maySpread.f a0_0 a0_1 a0_2 a0_3 a0_4 a0_5).bind fun t334 => (some t334)) else (some true)) else (some false))) else (none)))

def impl_IsShape.e (k : Nat) : Refl.Ent G := ⟨107, [(.agg [li, li, li, li, li, .bool])], .one (.c .bool), fun x => impl_IsShape.f x.1 x.2.1 x.2.2.1 x.2.2.2.1 x.2.2.2.2.1 x.2.2.2.2.2⟩
theorem impl_IsShape.ok (k : Nat) : Refl.EntOK Tryz.prog (impl_IsShape.e k) := Refl.ent_ok 1000000 k GC (fun k => [impl_Shape_bends.e k, impl_allWithin.e k, impl_Shape_maySpread.e k]) (fun k => ⟨impl_Shape_bends.ok k, impl_allWithin.ok k, impl_Shape_maySpread.ok k, trivial⟩) Tryz.func107 (by kernel_rfl) [] (ps := []) (by kernel_rfl) trivial (fun x => by kernel_rfl)

/-! ### impl_IsOrient: function 108 -/

def impl_IsOrient.f (a0_0 : Int) (a0_1 : Int) : Option (Bool) := (impl_within.f a0_0 0 5).bind fun t336 => (if t336 = true then ((impl_within.f a0_1 0 5).bind fun t337 => (if t337 = true then (some ((wrap64 (Int.tdiv a0_0 2)) != (wrap64 (Int.tdiv a0_1 2)))) else (some false))) else (some false))

def impl_IsOrient.e (k : Nat) : Refl.Ent G := ⟨108, [(.agg [li, li])], .one (.c .bool), fun x => impl_IsOrient.f x.1 x.2⟩
theorem impl_IsOrient.ok (k : Nat) : Refl.EntOK Tryz.prog (impl_IsOrient.e k) := Refl.ent_ok 1000000 k GC (fun k => [impl_within.e k]) (fun k => ⟨impl_within.ok k, trivial⟩) Tryz.func108 (by kernel_rfl) [] (ps := []) (by kernel_rfl) trivial (fun x => by kernel_rfl)

/-! ### impl_IsPlace: function 109 -/

def impl_IsPlace.f (a0_0 : Int) (a0_1 : Int) (a0_2 : Bool) : Option (Bool) := (impl_within.f a0_0 0 9).bind fun t339 => (if t339 = true then ((impl_within.f a0_1 (-1) 1).bind fun t340 => (if t340 = true then (if a0_2 = true then (some (!(a0_0 == 0))) else (some (!false))) else (some false))) else (some false))

def impl_IsPlace.e (k : Nat) : Refl.Ent G := ⟨109, [(.agg [li, li, .bool])], .one (.c .bool), fun x => impl_IsPlace.f x.1 x.2.1 x.2.2⟩
theorem impl_IsPlace.ok (k : Nat) : Refl.EntOK Tryz.prog (impl_IsPlace.e k) := Refl.ent_ok 1000000 k GC (fun k => [impl_within.e k]) (fun k => ⟨impl_within.ok k, trivial⟩) Tryz.func109 (by kernel_rfl) [] (ps := []) (by kernel_rfl) trivial (fun x => by kernel_rfl)

/-! ### strings_IndexByte: function 181 -/

def strings_IndexByte.f (a0 : ByteArray) (a1 : Int) : Option Int := some (Lib.indexByte a0.data.toList a1.toNat.toUInt8)
theorem strings_IndexByte.calls (a0 : ByteArray) (a1 : Int) (r : Int) (w : World) (h : strings_IndexByte.f a0 a1 = some r) :
    Calls Tryz.prog 181 #[.string a0, .int .u8 a1] w fun e w' => e = .returned (.int .i64 r) ∧ Drawn0 w w' := by
  obtain rfl := Option.some.inj h
  exact (Tryz.strings_IndexByte a0 a1 w).mono fun e w' ⟨he, hw⟩ => ⟨he, hw ▸ Drawn0.refl _⟩

def strings_IndexByte.e (k : Nat) : Refl.Ent G := ⟨181, [(.c .str), (.c (.int .u8))], .one (.c li), fun x => strings_IndexByte.f x.1 x.2⟩
theorem strings_IndexByte.ok (k : Nat) : Refl.EntOK Tryz.prog (strings_IndexByte.e k) := Refl.entOK_hand Tryz.func181 (by kernel_rfl) (fun x => by kernel_rfl) (fun y => ⟨by kernel_rfl, by kernel_rfl, by kernel_rfl, by kernel_rfl⟩) (fun x y h w => (strings_IndexByte.calls x.1 x.2 y w h).mono fun e w' hh => ⟨hh.1, hh.2.below⟩)

/-! ### impl_hasOnly: function 157 -/

def impl_hasOnly.l0 : Nat → ByteArray → ByteArray → Int → Int → Option (Bool)
  | 0, _, _, _, _ => none
  | k + 1, x0, x1, x7, x8 => if x8 < x7 then (if 0 ≤ x8 then (if x8 < (x0.size : Int) then ((strings_IndexByte.f x1 (bt x0 x8)).bind fun t341 => (if t341 < 0 then (some false) else (impl_hasOnly.l0 k x0 x1 x7 (wrap64 (x8 + 1))))) else (none)) else (none)) else (some true)

def impl_hasOnly.f (k : Nat) (a0 : ByteArray) (a1 : ByteArray) : Option (Bool) := impl_hasOnly.l0 k a0 a1 (a0.size : Int) 0

theorem impl_hasOnly.mono_l : ∀ k, (∀ y0 y1 y2 y3, LeO (impl_hasOnly.l0 k y0 y1 y2 y3) (impl_hasOnly.l0 (k + 1) y0 y1 y2 y3))
  | 0 => fun _ _ _ _ r h => by simp [impl_hasOnly.l0] at h
  | k + 1 => by
    have ih0 := impl_hasOnly.mono_l k
    · intro y0 y1 y2 y3
      unfold impl_hasOnly.l0
      repeat' first
      | (with_reducible exact ih0 _ _ _ _)
      | (with_reducible exact LeO.refl _)
      | (with_reducible exact LeO.none _)
      | (with_reducible refine LeO.ite ?_ ?_)
      | (with_reducible refine LeO.bind ?_ (fun _ => ?_))
      | exact ih0 _ _ _ _
      | exact LeO.none _
      | refine LeO.ite ?_ ?_
      | refine LeO.bind ?_ (fun _ => ?_)

theorem impl_hasOnly.mono : ∀ a0 a1 k, LeO (impl_hasOnly.f k a0 a1) (impl_hasOnly.f (k + 1) a0 a1) := by
  intro a0 a1 k
  have ih0 := impl_hasOnly.mono_l k
  unfold impl_hasOnly.f
  repeat' first
      | (with_reducible exact ih0 _ _ _ _)
      | (with_reducible exact LeO.refl _)
      | (with_reducible exact LeO.none _)
      | (with_reducible refine LeO.ite ?_ ?_)
      | (with_reducible refine LeO.bind ?_ (fun _ => ?_))
      | exact ih0 _ _ _ _
      | exact LeO.none _
      | refine LeO.ite ?_ ?_
      | refine LeO.bind ?_ (fun _ => ?_)

def impl_hasOnly.e (k : Nat) : Refl.Ent G := ⟨157, [(.c .str), (.c .str)], .one (.c .bool), fun x => impl_hasOnly.f k x.1 x.2⟩
def impl_hasOnly.pl0 : Refl.Pn G (Refl.PT G (impl_hasOnly.e 0).ol) := ⟨true, 0, ⟨[(0, .v (.c .str)), (1, .v (.c .str)), (7, .v (.c li)), (8, .v (.c li)), (4, .k (Value.bool false))], []⟩, fun k x => impl_hasOnly.l0 k x.1 x.2.1 x.2.2.1 x.2.2.2⟩
theorem impl_hasOnly.ok (k : Nat) : Refl.EntOK Tryz.prog (impl_hasOnly.e k) := Refl.ent_ok 1000000 k GC (fun k => [strings_IndexByte.e k]) (fun k => ⟨strings_IndexByte.ok k, trivial⟩) Tryz.func157 (by kernel_rfl) [impl_hasOnly.pl0] (ps := [impl_hasOnly.pl0]) (by kernel_rfl) ⟨⟨fun x => by kernel_rfl, fun k x => by kernel_rfl⟩, trivial⟩ (fun x => by kernel_rfl)

/-! ### impl_IsMove: function 110 -/

def impl_IsMove.f (k : Nat) (a0_0 : ByteArray) (a0_1 : Int) : Option (Bool) := if (a0_0.size : Int) ≤ 6 then ((impl_hasOnly.f k a0_0 (⟨#[117, 100, 108, 114, 102, 98]⟩ : ByteArray)).bind fun t343 => (if t343 = true then ((impl_within.f a0_1 1 3).bind fun t344 => (if t344 = true then (if a0_0.toList = ([] : List UInt8) then (some (a0_1 == 1)) else (some true)) else (some false))) else (some false))) else (some false)

theorem impl_IsMove.mono : ∀ a0 a1 k, LeO (impl_IsMove.f k a0 a1) (impl_IsMove.f (k + 1) a0 a1) := by
  intro a0 a1 k
  unfold impl_IsMove.f
  repeat' first
      | (with_reducible exact impl_hasOnly.mono _ _ _)
      | (with_reducible exact LeO.refl _)
      | (with_reducible exact LeO.none _)
      | (with_reducible refine LeO.ite ?_ ?_)
      | (with_reducible refine LeO.bind ?_ (fun _ => ?_))
      | exact impl_hasOnly.mono _ _ _
      | exact LeO.none _
      | refine LeO.ite ?_ ?_
      | refine LeO.bind ?_ (fun _ => ?_)

def impl_IsMove.e (k : Nat) : Refl.Ent G := ⟨110, [(.agg [.str, li])], .one (.c .bool), fun x => impl_IsMove.f k x.1 x.2⟩
theorem impl_IsMove.ok (k : Nat) : Refl.EntOK Tryz.prog (impl_IsMove.e k) := Refl.ent_ok 1000000 k GC (fun k => [impl_hasOnly.e k, impl_within.e k]) (fun k => ⟨impl_hasOnly.ok k, impl_within.ok k, trivial⟩) Tryz.func110 (by kernel_rfl) [] (ps := []) (by kernel_rfl) trivial (fun x => by kernel_rfl)

/-! ### impl_IsHand: function 70 -/

def impl_IsHand.f (k : Nat) (a0_0 : Int) (a0_1 : Int) (a0_2 : Int) (a0_3 : Int) (a0_4 : Int) (a0_5 : Bool) (a0_6 : Int) (a0_7 : Int) (a0_8 : Int) (a0_9 : Int) (a0_10 : Bool) (a0_11 : ByteArray) (a0_12 : Int) : Option (Bool) := (impl_IsShape.f a0_0 a0_1 a0_2 a0_3 a0_4 a0_5).bind fun t346 => (if t346 = true then ((impl_IsOrient.f a0_6 a0_7).bind fun t347 => (if t347 = true then ((impl_IsPlace.f a0_8 a0_9 a0_10).bind fun t348 => (if t348 = true then ((impl_IsMove.f k a0_11 a0_12).bind fun t349 => (some t349)) else (some false))) else (some false))) else (some false))

theorem impl_IsHand.mono : ∀ a0 a1 a2 a3 a4 a5 a6 a7 a8 a9 a10 a11 a12 k, LeO (impl_IsHand.f k a0 a1 a2 a3 a4 a5 a6 a7 a8 a9 a10 a11 a12) (impl_IsHand.f (k + 1) a0 a1 a2 a3 a4 a5 a6 a7 a8 a9 a10 a11 a12) := by
  intro a0 a1 a2 a3 a4 a5 a6 a7 a8 a9 a10 a11 a12 k
  unfold impl_IsHand.f
  repeat' first
      | (with_reducible exact impl_IsMove.mono _ _ _)
      | (with_reducible exact LeO.refl _)
      | (with_reducible exact LeO.none _)
      | (with_reducible refine LeO.ite ?_ ?_)
      | (with_reducible refine LeO.bind ?_ (fun _ => ?_))
      | exact impl_IsMove.mono _ _ _
      | exact LeO.none _
      | refine LeO.ite ?_ ?_
      | refine LeO.bind ?_ (fun _ => ?_)

def impl_IsHand.e (k : Nat) : Refl.Ent G := ⟨70, [(.agg gL0)], .one (.c .bool), fun x => impl_IsHand.f k x.1 x.2.1 x.2.2.1 x.2.2.2.1 x.2.2.2.2.1 x.2.2.2.2.2.1 x.2.2.2.2.2.2.1 x.2.2.2.2.2.2.2.1 x.2.2.2.2.2.2.2.2.1 x.2.2.2.2.2.2.2.2.2.1 x.2.2.2.2.2.2.2.2.2.2.1 x.2.2.2.2.2.2.2.2.2.2.2.1 x.2.2.2.2.2.2.2.2.2.2.2.2⟩
theorem impl_IsHand.ok (k : Nat) : Refl.EntOK Tryz.prog (impl_IsHand.e k) := Refl.ent_ok 1000000 k GC (fun k => [impl_IsShape.e k, impl_IsOrient.e k, impl_IsPlace.e k, impl_IsMove.e k]) (fun k => ⟨impl_IsShape.ok k, impl_IsOrient.ok k, impl_IsPlace.ok k, impl_IsMove.ok k, trivial⟩) Tryz.func70 (by kernel_rfl) [] (ps := []) (by kernel_rfl) trivial (fun x => by kernel_rfl)

/-! ### strings_Repeat: function 133 -/

def strings_Repeat.f (a0 : ByteArray) (a1 : Int) : Option ByteArray :=
  if 0 ≤ a1 ∧ a1 ≤ 9223372036854775807 ∧ a0.size * a1.toNat ≤ 140737488355328 then some ⟨(Lib.repeatL a0.data.toList a1.toNat).toArray⟩ else none
theorem strings_Repeat.calls (a0 : ByteArray) (a1 : Int) (r : ByteArray) (w : World) (h : strings_Repeat.f a0 a1 = some r) :
    Calls Tryz.prog 133 #[.string a0, .int .i64 a1] w fun e w' => e = .returned (.string r) ∧ Below w.heap.size w w' := by
  unfold strings_Repeat.f at h
  split at h
  · rename_i hc
    obtain rfl := Option.some.inj h
    obtain ⟨c, rfl⟩ := Int.eq_ofNat_of_zero_le hc.1
    exact Tryz.strings_Repeat a0 c w (by omega) (by simpa using hc.2.2)
  · exact absurd h (by simp)

def strings_Repeat.e (k : Nat) : Refl.Ent G := ⟨133, [(.c .str), (.c li)], .one (.c .str), fun x => strings_Repeat.f x.1 x.2⟩
theorem strings_Repeat.ok (k : Nat) : Refl.EntOK Tryz.prog (strings_Repeat.e k) := Refl.entOK_hand Tryz.func133 (by kernel_rfl) (fun x => by kernel_rfl) (fun y => ⟨by kernel_rfl, by kernel_rfl, by kernel_rfl, by kernel_rfl⟩) (fun x y h w => (strings_Repeat.calls x.1 x.2 y w h).mono fun e w' hh => ⟨hh.1, hh.2⟩)

/-! ### impl_Move_all: function 88 -/

def impl_Move_all.f (a0_0 : ByteArray) (a0_1 : Int) : Option (ByteArray) := (strings_Repeat.f a0_0 a0_1).bind fun t351 => (some t351)

def impl_Move_all.e (k : Nat) : Refl.Ent G := ⟨88, [(.agg [.str, li])], .one (.c .str), fun x => impl_Move_all.f x.1 x.2⟩
theorem impl_Move_all.ok (k : Nat) : Refl.EntOK Tryz.prog (impl_Move_all.e k) := Refl.ent_ok 1000000 k GC (fun k => [strings_Repeat.e k]) (fun k => ⟨strings_Repeat.ok k, trivial⟩) Tryz.func88 (by kernel_rfl) [] (ps := []) (by kernel_rfl) trivial (fun x => by kernel_rfl)

/-! ### impl_Hand_moves: function 111 -/

def impl_Hand_moves.f (a0_0 : Int) (a0_1 : Int) (a0_2 : Int) (a0_3 : Int) (a0_4 : Int) (a0_5 : Bool) (a0_6 : Int) (a0_7 : Int) (a0_8 : Int) (a0_9 : Int) (a0_10 : Bool) (a0_11 : ByteArray) (a0_12 : Int) : Option (Bool) := some (a0_11.toList != ([] : List UInt8))

def impl_Hand_moves.e (k : Nat) : Refl.Ent G := ⟨111, [(.agg gL0)], .one (.c .bool), fun x => impl_Hand_moves.f x.1 x.2.1 x.2.2.1 x.2.2.2.1 x.2.2.2.2.1 x.2.2.2.2.2.1 x.2.2.2.2.2.2.1 x.2.2.2.2.2.2.2.1 x.2.2.2.2.2.2.2.2.1 x.2.2.2.2.2.2.2.2.2.1 x.2.2.2.2.2.2.2.2.2.2.1 x.2.2.2.2.2.2.2.2.2.2.2.1 x.2.2.2.2.2.2.2.2.2.2.2.2⟩
theorem impl_Hand_moves.ok (k : Nat) : Refl.EntOK Tryz.prog (impl_Hand_moves.e k) := Refl.ent_ok 1000000 k GC (fun k => []) (fun k => trivial) Tryz.func111 (by kernel_rfl) [] (ps := []) (by kernel_rfl) trivial (fun x => by kernel_rfl)

/-! ### impl_Shape_158: function 158 -/

def impl_Shape_158.l0 : Nat → List (S37) → Int → Int → Int → Int → Int → Int → Int → Bool → Option (Int)
  | 0, _, _, _, _, _, _, _, _, _ => none
  | k + 1, x0, x7, x8, x354000, x354001, x354002, x354003, x354004, x354005 => if x8 < x7 then (if 0 ≤ x8 then (if x8 < (x0.length : Int) then (if (x354000 == ((rd_T37 x0 x8).f0) && (x354001 == ((rd_T37 x0 x8).f1) && (x354002 == ((rd_T37 x0 x8).f2) && (x354003 == ((rd_T37 x0 x8).f3) && (x354004 == ((rd_T37 x0 x8).f4) && (x354005 == ((rd_T37 x0 x8).f5))))))) = true then (some x8) else (impl_Shape_158.l0 k x0 x7 (wrap64 (x8 + 1)) x354000 x354001 x354002 x354003 x354004 x354005)) else (none)) else (none)) else (some (-1))

def impl_Shape_158.f (k : Nat) (l0 : List (S37)) (a1_0 : Int) (a1_1 : Int) (a1_2 : Int) (a1_3 : Int) (a1_4 : Int) (a1_5 : Bool) : Option (Int) := impl_Shape_158.l0 k l0 (l0.length : Int) 0 a1_0 a1_1 a1_2 a1_3 a1_4 a1_5

theorem impl_Shape_158.mono_l : ∀ k, (∀ y0 y1 y2 y3 y4 y5 y6 y7 y8, LeO (impl_Shape_158.l0 k y0 y1 y2 y3 y4 y5 y6 y7 y8) (impl_Shape_158.l0 (k + 1) y0 y1 y2 y3 y4 y5 y6 y7 y8))
  | 0 => fun _ _ _ _ _ _ _ _ _ r h => by simp [impl_Shape_158.l0] at h
  | k + 1 => by
    have ih0 := impl_Shape_158.mono_l k
    · intro y0 y1 y2 y3 y4 y5 y6 y7 y8
      unfold impl_Shape_158.l0
      repeat' first
      | (with_reducible exact ih0 _ _ _ _ _ _ _ _ _)
      | (with_reducible exact LeO.refl _)
      | (with_reducible exact LeO.none _)
      | (with_reducible refine LeO.ite ?_ ?_)
      | (with_reducible refine LeO.bind ?_ (fun _ => ?_))
      | exact ih0 _ _ _ _ _ _ _ _ _
      | exact LeO.none _
      | refine LeO.ite ?_ ?_
      | refine LeO.bind ?_ (fun _ => ?_)

theorem impl_Shape_158.mono : ∀ a0 a1 a2 a3 a4 a5 a6 k, LeO (impl_Shape_158.f k a0 a1 a2 a3 a4 a5 a6) (impl_Shape_158.f (k + 1) a0 a1 a2 a3 a4 a5 a6) := by
  intro a0 a1 a2 a3 a4 a5 a6 k
  have ih0 := impl_Shape_158.mono_l k
  unfold impl_Shape_158.f
  repeat' first
      | (with_reducible exact ih0 _ _ _ _ _ _ _ _ _)
      | (with_reducible exact LeO.refl _)
      | (with_reducible exact LeO.none _)
      | (with_reducible refine LeO.ite ?_ ?_)
      | (with_reducible refine LeO.bind ?_ (fun _ => ?_))
      | exact ih0 _ _ _ _ _ _ _ _ _
      | exact LeO.none _
      | refine LeO.ite ?_ ?_
      | refine LeO.bind ?_ (fun _ => ?_)

def impl_Shape_158.e (k : Nat) : Refl.Ent G := ⟨158, [(.c (.row 37 false)), (.agg [li, li, li, li, li, .bool])], .one (.c li), fun x => impl_Shape_158.f k x.1 x.2.1 x.2.2.1 x.2.2.2.1 x.2.2.2.2.1 x.2.2.2.2.2.1 x.2.2.2.2.2.2⟩
def impl_Shape_158.pl0 : Refl.Pn G (Refl.PT G (impl_Shape_158.e 0).ol) := ⟨true, 0, ⟨[(0, .v (.c (.row 37 false))), (7, .v (.c li)), (8, .v (.c li)), (3, .box 3 0), (4, .k (Value.int IntKind.i64 0))], [(3, 37, gL6)]⟩, fun k x => impl_Shape_158.l0 k x.1 x.2.1 x.2.2.1 x.2.2.2.1 x.2.2.2.2.1 x.2.2.2.2.2.1 x.2.2.2.2.2.2.1 x.2.2.2.2.2.2.2.1 x.2.2.2.2.2.2.2.2⟩
theorem impl_Shape_158.ok (k : Nat) : Refl.EntOK Tryz.prog (impl_Shape_158.e k) := Refl.ent_ok 1000000 k GC (fun k => []) (fun k => trivial) Tryz.func158 (by kernel_rfl) [impl_Shape_158.pl0] (ps := [impl_Shape_158.pl0]) (by kernel_rfl) ⟨⟨fun x => by kernel_rfl, fun k x => by kernel_rfl⟩, trivial⟩ (fun x => by kernel_rfl)

/-! ### impl_Shape_112: function 112 -/

def impl_Shape_112.f (k : Nat) (l0 : List (S37)) (a1_0 : Int) (a1_1 : Int) (a1_2 : Int) (a1_3 : Int) (a1_4 : Int) (a1_5 : Bool) : Option (Bool) := (impl_Shape_158.f k l0 a1_0 a1_1 a1_2 a1_3 a1_4 a1_5).bind fun t356 => (some (decide (t356 ≥ 0)))

theorem impl_Shape_112.mono : ∀ a0 a1 a2 a3 a4 a5 a6 k, LeO (impl_Shape_112.f k a0 a1 a2 a3 a4 a5 a6) (impl_Shape_112.f (k + 1) a0 a1 a2 a3 a4 a5 a6) := by
  intro a0 a1 a2 a3 a4 a5 a6 k
  unfold impl_Shape_112.f
  repeat' first
      | (with_reducible exact impl_Shape_158.mono _ _ _ _ _ _ _ _)
      | (with_reducible exact LeO.refl _)
      | (with_reducible exact LeO.none _)
      | (with_reducible refine LeO.ite ?_ ?_)
      | (with_reducible refine LeO.bind ?_ (fun _ => ?_))
      | exact impl_Shape_158.mono _ _ _ _ _ _ _ _
      | exact LeO.none _
      | refine LeO.ite ?_ ?_
      | refine LeO.bind ?_ (fun _ => ?_)

def impl_Shape_112.e (k : Nat) : Refl.Ent G := ⟨112, [(.c (.row 37 false)), (.agg [li, li, li, li, li, .bool])], .one (.c .bool), fun x => impl_Shape_112.f k x.1 x.2.1 x.2.2.1 x.2.2.2.1 x.2.2.2.2.1 x.2.2.2.2.2.1 x.2.2.2.2.2.2⟩
theorem impl_Shape_112.ok (k : Nat) : Refl.EntOK Tryz.prog (impl_Shape_112.e k) := Refl.ent_ok 1000000 k GC (fun k => [impl_Shape_158.e k]) (fun k => ⟨impl_Shape_158.ok k, trivial⟩) Tryz.func112 (by kernel_rfl) [] (ps := []) (by kernel_rfl) trivial (fun x => by kernel_rfl)

/-! ### strconv_Itoa: function 167 -/

/-- The digits, and the pairs of digits, as the library lays them. -/
def itA : ByteArray := ⟨#[48, 49, 50, 51, 52, 53, 54, 55, 56, 57, 97, 98, 99, 100, 101, 102, 103, 104, 105, 106, 107, 108, 109, 110, 111, 112, 113, 114, 115, 116, 117, 118, 119, 120, 121, 122]⟩
def itB : ByteArray := ⟨#[48, 48, 48, 49, 48, 50, 48, 51, 48, 52, 48, 53, 48, 54, 48, 55, 48, 56, 48, 57, 49, 48, 49, 49, 49, 50, 49, 51, 49, 52, 49, 53, 49, 54, 49, 55, 49, 56, 49, 57, 50, 48, 50, 49, 50, 50, 50, 51, 50, 52, 50, 53, 50, 54, 50, 55, 50, 56, 50, 57, 51, 48, 51, 49, 51, 50, 51, 51, 51, 52, 51, 53, 51, 54, 51, 55, 51, 56, 51, 57, 52, 48, 52, 49, 52, 50, 52, 51, 52, 52, 52, 53, 52, 54, 52, 55, 52, 56, 52, 57, 53, 48, 53, 49, 53, 50, 53, 51, 53, 52, 53, 53, 53, 54, 53, 55, 53, 56, 53, 57, 54, 48, 54, 49, 54, 50, 54, 51, 54, 52, 54, 53, 54, 54, 54, 55, 54, 56, 54, 57, 55, 48, 55, 49, 55, 50, 55, 51, 55, 52, 55, 53, 55, 54, 55, 55, 55, 56, 55, 57, 56, 48, 56, 49, 56, 50, 56, 51, 56, 52, 56, 53, 56, 54, 56, 55, 56, 56, 56, 57, 57, 48, 57, 49, 57, 50, 57, 51, 57, 52, 57, 53, 57, 54, 57, 55, 57, 56, 57, 57]⟩
/-- The text of a number below 100. -/
def itT (n : Int) : ByteArray := if n < 10 then itA.extract n.toNat (n + 1).toNat else itB.extract (n * 2).toNat (n * 2 + 2).toNat
set_option maxHeartbeats 4000000 in
set_option maxRecDepth 100000 in
theorem itSmall (n : Int) (w : World) (h0 : 0 ≤ n) (h1 : n < 100) : Calls Tryz.prog 208 #[.int .i64 n] w fun e w' => e = .returned (.string (itT n)) ∧ Drawn0 w w' := by
  have e1 : IntKind.i64.wrap (n + 1) = n + 1 := by simp [IntKind.wrap, IntKind.bits, IntKind.signed]; omega
  have e2 : IntKind.i64.wrap (n * 2) = n * 2 := by simp [IntKind.wrap, IntKind.bits, IntKind.signed]; omega
  have e3 : IntKind.i64.wrap (n * 2 + 2) = n * 2 + 2 := by simp [IntKind.wrap, IntKind.bits, IntKind.signed]; omega
  by_cases h : n < 10
  · have c0 : decide (n < 10) = true := decide_eq_true h
    have c1 : itT n = itA.extract n.toNat (n + 1).toNat := if_pos h
    have b0 : (0 ≤ n) = True := eq_true h0
    have b1 : (n ≤ n + 1) = True := eq_true (by omega)
    have b2 : (n + 1 ≤ 36) = True := eq_true (by omega)
    have b3 : decide (0 ≤ n) = true := decide_eq_true h0
    have b4 : decide (n ≤ n + 1) = true := decide_eq_true (by omega)
    have b5 : decide (n + 1 ≤ 36) = true := decide_eq_true (by omega)
    rw [c1]
    clear h c1 h0 h1
    go_enter Tryz.func208, Tryz.ntmps208
    go_wp2
    go_ret
    exact ⟨by first | rfl | (simp [itA]; done), by repeat (first | exact Drawn0.refl _ | apply Drawn0.step)⟩
  · have c0 : decide (n < 10) = false := decide_eq_false h
    have c1 : itT n = itB.extract (n * 2).toNat (n * 2 + 2).toNat := if_neg h
    have b0 : (0 ≤ n * 2) = True := eq_true (by omega)
    have b1 : (n * 2 ≤ n * 2 + 2) = True := eq_true (by omega)
    have b2 : (n * 2 + 2 ≤ 200) = True := eq_true (by omega)
    have b3 : decide (0 ≤ n * 2) = true := decide_eq_true (by omega)
    have b4 : decide (n * 2 ≤ n * 2 + 2) = true := decide_eq_true (by omega)
    have b5 : decide (n * 2 + 2 ≤ 200) = true := decide_eq_true (by omega)
    rw [c1]
    clear h c1 h0 h1
    go_enter Tryz.func208, Tryz.ntmps208
    go_wp2
    go_ret
    exact ⟨by first | rfl | (simp [itB]; done), by repeat (first | exact Drawn0.refl _ | apply Drawn0.step)⟩
set_option maxHeartbeats 4000000 in
set_option maxRecDepth 100000 in
theorem itFormat (n : Int) (w : World) (h0 : 0 ≤ n) (h1 : n < 100) : Calls Tryz.prog 200 #[.int .i64 n, .int .i64 10] w fun e w' => e = .returned (.string (itT n)) ∧ Drawn0 w w' := by
  have HS := Aside0.mk (fun W => itSmall n W h0 h1)
  have e1 : IntKind.i64.wrap n = n := by simp [IntKind.wrap, IntKind.bits, IntKind.signed]; omega
  have c0 : decide (0 ≤ n) = true := decide_eq_true h0
  have c1 : decide (n < 100) = true := decide_eq_true h1
  clear h0 h1
  go_enter Tryz.func200, Tryz.ntmps200
  go_wp2_with (go_at_call 208; refine (HS.out _).mono ?_; rintro e wq ⟨rfl, ⟨nd, rfl⟩⟩)
  go_ret
  exact ⟨by first | rfl | (simp; done), by repeat (first | exact Drawn0.refl _ | apply Drawn0.step)⟩
set_option maxHeartbeats 4000000 in
set_option maxRecDepth 100000 in
theorem itIn (n : Int) (w : World) (h0 : 0 ≤ n) (h1 : n < 100) : Calls Tryz.prog 187 #[.int .i64 n] w fun e w' => e = .returned (.string (itT n)) ∧ Drawn0 w w' := by
  have HS := Aside0.mk (fun W => itFormat n W h0 h1)
  have e1 : IntKind.i64.wrap n = n := by simp [IntKind.wrap, IntKind.bits, IntKind.signed]; omega
  clear h0 h1
  go_enter Tryz.func187, Tryz.ntmps187
  go_wp2_with (go_at_call 200; refine (HS.out _).mono ?_; rintro e wq ⟨rfl, ⟨nd, rfl⟩⟩)
  go_ret
  exact ⟨by first | rfl | (simp; done), by repeat (first | exact Drawn0.refl _ | apply Drawn0.step)⟩
def strconv_Itoa.f (a0 : Int) : Option ByteArray := if 0 ≤ a0 ∧ a0 < 100 then some (itT a0) else none
set_option maxHeartbeats 4000000 in
set_option maxRecDepth 100000 in
theorem strconv_Itoa.calls (a0 : Int) (r : ByteArray) (w : World) (h : strconv_Itoa.f a0 = some r) : Calls Tryz.prog 167 #[.int .i64 a0] w fun e w' => e = .returned (.string r) ∧ Drawn0 w w' := by
  unfold strconv_Itoa.f at h
  by_cases hn : 0 ≤ a0 ∧ a0 < 100
  · rw [if_pos hn] at h
    obtain rfl := Option.some.inj h
    have HS := Aside0.mk (fun W => itIn a0 W hn.1 hn.2)
    clear h hn
    go_enter Tryz.func167, Tryz.ntmps167
    go_wp2_with (go_at_call 187; refine (HS.out _).mono ?_; rintro e wq ⟨rfl, ⟨nd, rfl⟩⟩)
    go_ret
    exact ⟨by first | rfl | (simp; done), by repeat (first | exact Drawn0.refl _ | apply Drawn0.step)⟩
  · rw [if_neg hn] at h; exact absurd h (by simp)

def strconv_Itoa.e (k : Nat) : Refl.Ent G := ⟨167, [(.c li)], .one (.c .str), fun x => strconv_Itoa.f x⟩
theorem strconv_Itoa.ok (k : Nat) : Refl.EntOK Tryz.prog (strconv_Itoa.e k) := Refl.entOK_hand Tryz.func167 (by kernel_rfl) (fun x => by kernel_rfl) (fun y => ⟨by kernel_rfl, by kernel_rfl, by kernel_rfl, by kernel_rfl⟩) (fun x y h w => (strconv_Itoa.calls x y w h).mono fun e w' hh => ⟨hh.1, hh.2.below⟩)

/-! ### impl_Shape_text: function 118 -/

def impl_Shape_text.l0 : Nat → ByteArray → List Int → Int → Int → Int → Int → Int → Int → Int → Bool → Option (ByteArray)
  | 0, _, _, _, _, _, _, _, _, _, _ => none
  | k + 1, x3, x10, x11, x12, x358000, x358001, x358002, x358003, x358004, x358005 => if x12 < x11 then (if 0 ≤ x12 then (if x12 < (x10.length : Int) then ((strconv_Itoa.f (rd x10 x12)).bind fun t363 => (if x3.size + t363.size ≤ 9223372036854775807 then (impl_Shape_text.l0 k (x3 ++ t363) x10 x11 (wrap64 (x12 + 1)) x358000 x358001 x358002 x358003 x358004 x358005) else (none))) else (none)) else (none)) else (if x358005 = true then (if x3.size + 1 ≤ 9223372036854775807 then (some (x3 ++ (⟨#[115]⟩ : ByteArray))) else (none)) else (some x3))

def impl_Shape_text.f (k : Nat) (a0_0 : Int) (a0_1 : Int) (a0_2 : Int) (a0_3 : Int) (a0_4 : Int) (a0_5 : Bool) : Option (ByteArray) := (strconv_Itoa.f a0_0).bind fun t358 => ((impl_Shape_bends.f a0_0 a0_1 a0_2 a0_3 a0_4 a0_5).bind fun t359 => (impl_Shape_text.l0 k t358 t359 (t359.length : Int) 0 a0_0 a0_1 a0_2 a0_3 a0_4 a0_5))

theorem impl_Shape_text.mono_l : ∀ k, (∀ y0 y1 y2 y3 y4 y5 y6 y7 y8 y9, LeO (impl_Shape_text.l0 k y0 y1 y2 y3 y4 y5 y6 y7 y8 y9) (impl_Shape_text.l0 (k + 1) y0 y1 y2 y3 y4 y5 y6 y7 y8 y9))
  | 0 => fun _ _ _ _ _ _ _ _ _ _ r h => by simp [impl_Shape_text.l0] at h
  | k + 1 => by
    have ih0 := impl_Shape_text.mono_l k
    · intro y0 y1 y2 y3 y4 y5 y6 y7 y8 y9
      unfold impl_Shape_text.l0
      repeat' first
      | (with_reducible exact ih0 _ _ _ _ _ _ _ _ _ _)
      | (with_reducible exact LeO.refl _)
      | (with_reducible exact LeO.none _)
      | (with_reducible refine LeO.ite ?_ ?_)
      | (with_reducible refine LeO.bind ?_ (fun _ => ?_))
      | exact ih0 _ _ _ _ _ _ _ _ _ _
      | exact LeO.none _
      | refine LeO.ite ?_ ?_
      | refine LeO.bind ?_ (fun _ => ?_)

theorem impl_Shape_text.mono : ∀ a0 a1 a2 a3 a4 a5 k, LeO (impl_Shape_text.f k a0 a1 a2 a3 a4 a5) (impl_Shape_text.f (k + 1) a0 a1 a2 a3 a4 a5) := by
  intro a0 a1 a2 a3 a4 a5 k
  have ih0 := impl_Shape_text.mono_l k
  unfold impl_Shape_text.f
  repeat' first
      | (with_reducible exact ih0 _ _ _ _ _ _ _ _ _ _)
      | (with_reducible exact LeO.refl _)
      | (with_reducible exact LeO.none _)
      | (with_reducible refine LeO.ite ?_ ?_)
      | (with_reducible refine LeO.bind ?_ (fun _ => ?_))
      | exact ih0 _ _ _ _ _ _ _ _ _ _
      | exact LeO.none _
      | refine LeO.ite ?_ ?_
      | refine LeO.bind ?_ (fun _ => ?_)

def impl_Shape_text.e (k : Nat) : Refl.Ent G := ⟨118, [(.agg [li, li, li, li, li, .bool])], .one (.c .str), fun x => impl_Shape_text.f k x.1 x.2.1 x.2.2.1 x.2.2.2.1 x.2.2.2.2.1 x.2.2.2.2.2⟩
def impl_Shape_text.pl0 : Refl.Pn G (Refl.PT G (impl_Shape_text.e 0).ol) := ⟨true, 0, ⟨[(3, .v (.c .str)), (10, .v (.c (.row 3 false))), (11, .v (.c li)), (12, .v (.c li)), (1, .box 1 0)], [(1, 37, gL6)]⟩, fun k x => impl_Shape_text.l0 k x.1 x.2.1 x.2.2.1 x.2.2.2.1 x.2.2.2.2.1 x.2.2.2.2.2.1 x.2.2.2.2.2.2.1 x.2.2.2.2.2.2.2.1 x.2.2.2.2.2.2.2.2.1 x.2.2.2.2.2.2.2.2.2⟩
theorem impl_Shape_text.ok (k : Nat) : Refl.EntOK Tryz.prog (impl_Shape_text.e k) := Refl.ent_ok 1000000 k GC (fun k => [strconv_Itoa.e k, impl_Shape_bends.e k]) (fun k => ⟨strconv_Itoa.ok k, impl_Shape_bends.ok k, trivial⟩) Tryz.func118 (by kernel_rfl) [impl_Shape_text.pl0] (ps := [impl_Shape_text.pl0]) (by kernel_rfl) ⟨⟨fun x => by kernel_rfl, fun k x => by kernel_rfl⟩, trivial⟩ (fun x => by kernel_rfl)

end Go.Proofs.YtojfncpjgpklhaaGreatDoor.PA
