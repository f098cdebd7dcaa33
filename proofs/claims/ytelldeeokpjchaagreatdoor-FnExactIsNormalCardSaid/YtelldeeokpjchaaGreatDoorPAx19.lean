-- Written by a program of this session (wip/tools/myprint.py). Not trusted: Lean checks it.
import Derived.Test.YtelldeeokpjchaaGreatDoorCtx
import Derived.Test.YtelldeeokpjchaaGreatDoorPAx4
import Derived.Test.YtelldeeokpjchaaGreatDoorPAx5
import Derived.Test.YtelldeeokpjchaaGreatDoorPAx6
import Derived.Test.YtelldeeokpjchaaGreatDoorPAx10
import Derived.Test.YtelldeeokpjchaaGreatDoorPAx11
namespace Go.Proofs.YtelldeeokpjchaaGreatDoor.PA
open Go.RowKit Go.Proofs.YtelldeeokpjchaaGreatDoorW.PrintWords Go.Proofs.YtelldeeokpjchaaGreatDoorW.PrintLast Go.Proofs.YtelldeeokpjchaaGreatDoorW.PrintMore
attribute [local go_sem] max2_int min2_int max_two min_two max_three min_three max_four min_four   -- for this text's walks alone
set_option linter.unusedVariables false
set_option linter.unusedSimpArgs false

attribute [local go_sem high] eqA40
/-! ### spec_mvOf: function 128 -/

mutual
def spec_mvOf.l0 : Nat → ByteArray → Int → Option (ByteArray × Int × Bool)
  | 0, _, _ => none
  | k + 1, x0, x4 => if x4 ≤ 6 then (spec_mvOf.j1 k x0 x4 (decide (x4 ≤ (x0.size : Int)))) else (spec_mvOf.j1 k x0 x4 false)
def spec_mvOf.j1 : Nat → ByteArray → Int → Bool → Option (ByteArray × Int × Bool)
  | 0, _, _, _ => none
  | k + 1, x0, x4, x16 => if x16 = true then (spec_mvOf.l1 k x0 x4 1) else (some ((⟨#[]⟩ : ByteArray), 0, false))
def spec_mvOf.l1 : Nat → ByteArray → Int → Int → Option (ByteArray × Int × Bool)
  | 0, _, _, _ => none
  | k + 1, x0, x4, x5 => if x5 ≤ 3 then (if 0 ≤ x4 then (if x4 ≤ (x0.size : Int) then ((spec_mvTimes.f k (x0.extract 0 (x4 : Int).toNat) x5).bind fun t817 => (if t817.toList = x0.toList then (if 0 ≤ x4 then (if x4 ≤ (x0.size : Int) then (some (x0.extract 0 (x4 : Int).toNat, x5, true)) else (none)) else (none)) else (spec_mvOf.l1 k x0 x4 (wrap64 (x5 + 1))))) else (none)) else (none)) else (spec_mvOf.l0 k x0 (wrap64 (x4 + 1)))
end

def spec_mvOf.f (k : Nat) (a0 : ByteArray) : Option (ByteArray × Int × Bool) := if a0.toList = ([] : List UInt8) then (some ((⟨#[]⟩ : ByteArray), 1, true)) else (spec_mvOf.l0 k a0 1)

theorem spec_mvOf.mono_l : ∀ k, (∀ y0 y1, LeO (spec_mvOf.l0 k y0 y1) (spec_mvOf.l0 (k + 1) y0 y1)) ∧ (∀ y0 y1 y2, LeO (spec_mvOf.j1 k y0 y1 y2) (spec_mvOf.j1 (k + 1) y0 y1 y2)) ∧ (∀ y0 y1 y2, LeO (spec_mvOf.l1 k y0 y1 y2) (spec_mvOf.l1 (k + 1) y0 y1 y2))
  | 0 => ⟨fun _ _ r h => by simp [spec_mvOf.l0] at h, fun _ _ _ r h => by simp [spec_mvOf.j1] at h, fun _ _ _ r h => by simp [spec_mvOf.l1] at h⟩
  | k + 1 => by
    obtain ⟨ih0, ih1, ih2⟩ := spec_mvOf.mono_l k
    refine ⟨?_, ?_, ?_⟩
    · intro y0 y1
      unfold spec_mvOf.l0
      repeat' first
      | (with_reducible exact ih0 _ _)
      | (with_reducible exact ih1 _ _ _)
      | (with_reducible exact ih2 _ _ _)
      | (with_reducible exact spec_mvTimes.mono _ _ _)
      | (with_reducible exact LeO.refl _)
      | (with_reducible exact LeO.none _)
      | (with_reducible refine LeO.ite ?_ ?_)
      | (with_reducible refine LeO.bind ?_ (fun _ => ?_))
      | exact ih0 _ _
      | exact ih1 _ _ _
      | exact ih2 _ _ _
      | exact spec_mvTimes.mono _ _ _
      | exact LeO.none _
      | refine LeO.ite ?_ ?_
      | refine LeO.bind ?_ (fun _ => ?_)
    · intro y0 y1 y2
      unfold spec_mvOf.j1
      repeat' first
      | (with_reducible exact ih0 _ _)
      | (with_reducible exact ih1 _ _ _)
      | (with_reducible exact ih2 _ _ _)
      | (with_reducible exact spec_mvTimes.mono _ _ _)
      | (with_reducible exact LeO.refl _)
      | (with_reducible exact LeO.none _)
      | (with_reducible refine LeO.ite ?_ ?_)
      | (with_reducible refine LeO.bind ?_ (fun _ => ?_))
      | exact ih0 _ _
      | exact ih1 _ _ _
      | exact ih2 _ _ _
      | exact spec_mvTimes.mono _ _ _
      | exact LeO.none _
      | refine LeO.ite ?_ ?_
      | refine LeO.bind ?_ (fun _ => ?_)
    · intro y0 y1 y2
      unfold spec_mvOf.l1
      repeat' first
      | (with_reducible exact ih0 _ _)
      | (with_reducible exact ih1 _ _ _)
      | (with_reducible exact ih2 _ _ _)
      | (with_reducible exact spec_mvTimes.mono _ _ _)
      | (with_reducible exact LeO.refl _)
      | (with_reducible exact LeO.none _)
      | (with_reducible refine LeO.ite ?_ ?_)
      | (with_reducible refine LeO.bind ?_ (fun _ => ?_))
      | exact ih0 _ _
      | exact ih1 _ _ _
      | exact ih2 _ _ _
      | exact spec_mvTimes.mono _ _ _
      | exact LeO.none _
      | refine LeO.ite ?_ ?_
      | refine LeO.bind ?_ (fun _ => ?_)

theorem spec_mvOf.mono : ∀ a0 k, LeO (spec_mvOf.f k a0) (spec_mvOf.f (k + 1) a0) := by
  intro a0 k
  obtain ⟨ih0, ih1, ih2⟩ := spec_mvOf.mono_l k
  unfold spec_mvOf.f
  repeat' first
      | (with_reducible exact ih0 _ _)
      | (with_reducible exact ih1 _ _ _)
      | (with_reducible exact ih2 _ _ _)
      | (with_reducible exact spec_mvTimes.mono _ _ _)
      | (with_reducible exact LeO.refl _)
      | (with_reducible exact LeO.none _)
      | (with_reducible refine LeO.ite ?_ ?_)
      | (with_reducible refine LeO.bind ?_ (fun _ => ?_))
      | exact ih0 _ _
      | exact ih1 _ _ _
      | exact ih2 _ _ _
      | exact spec_mvTimes.mono _ _ _
      | exact LeO.none _
      | refine LeO.ite ?_ ?_
      | refine LeO.bind ?_ (fun _ => ?_)

def spec_mvOf.e (k : Nat) : Refl.Ent G := ⟨128, [(.c .str)], .tup [(.agg [.str, li]), (.c .bool)], fun x => spec_mvOf.f k x⟩
def spec_mvOf.pl0 : Refl.Pn G (Refl.PT G (spec_mvOf.e 0).ol) := ⟨true, 0, ⟨[(0, .v (.c .str)), (4, .v (.c li)), (2, .box 2 0), (3, .k (Value.bool false))], [(2, 36, gL3)]⟩, fun k x => spec_mvOf.l0 k x.1 x.2⟩
def spec_mvOf.pj1 : Refl.Pn G (Refl.PT G (spec_mvOf.e 0).ol) := ⟨false, 1000004, ⟨[(0, .v (.c .str)), (4, .v (.c li)), (16, .v (.c .bool)), (2, .box 2 0), (3, .k (Value.bool false))], [(2, 36, gL3)]⟩, fun k x => spec_mvOf.j1 k x.1 x.2.1 x.2.2⟩
def spec_mvOf.pl1 : Refl.Pn G (Refl.PT G (spec_mvOf.e 0).ol) := ⟨true, 2, ⟨[(0, .v (.c .str)), (4, .v (.c li)), (5, .v (.c li)), (2, .box 2 0), (3, .k (Value.bool false))], [(2, 36, gL3)]⟩, fun k x => spec_mvOf.l1 k x.1 x.2.1 x.2.2⟩
theorem spec_mvOf.ok (k : Nat) : Refl.EntOK Tryz.prog (spec_mvOf.e k) := Refl.ent_ok 1000000 k GC (fun k => [spec_mvTimes.e k]) (fun k => ⟨spec_mvTimes.ok k, trivial⟩) Tryz.func128 (by kernel_rfl) [spec_mvOf.pl0, spec_mvOf.pj1, spec_mvOf.pl1] (ps := [spec_mvOf.pl0, spec_mvOf.pj1, spec_mvOf.pl1]) (by kernel_rfl) ⟨⟨fun x => by kernel_rfl, fun k x => by kernel_rfl⟩, ⟨fun x => by kernel_rfl, fun k x => by kernel_rfl⟩, ⟨fun x => by kernel_rfl, fun k x => by kernel_rfl⟩, trivial⟩ (fun x => by kernel_rfl)

/-! ### spec_mvNormal: function 99 -/

def spec_mvNormal.f (k : Nat) (a0_0 : ByteArray) (a0_1 : Int) : Option (ByteArray × Int) := (spec_mvAll.f k a0_0 a0_1).bind fun t820 => ((spec_mvOf.f k t820).bind fun bt821 => (some (bt821.1, bt821.2.1)))

theorem spec_mvNormal.mono : ∀ a0 a1 k, LeO (spec_mvNormal.f k a0 a1) (spec_mvNormal.f (k + 1) a0 a1) := by
  intro a0 a1 k
  unfold spec_mvNormal.f
  repeat' first
      | (with_reducible exact spec_mvAll.mono _ _ _)
      | (with_reducible exact spec_mvOf.mono _ _)
      | (with_reducible exact LeO.refl _)
      | (with_reducible exact LeO.none _)
      | (with_reducible refine LeO.ite ?_ ?_)
      | (with_reducible refine LeO.bind ?_ (fun _ => ?_))
      | exact spec_mvAll.mono _ _ _
      | exact spec_mvOf.mono _ _
      | exact LeO.none _
      | refine LeO.ite ?_ ?_
      | refine LeO.bind ?_ (fun _ => ?_)

def spec_mvNormal.e (k : Nat) : Refl.Ent G := ⟨99, [(.agg [.str, li])], .one (.agg [.str, li]), fun x => spec_mvNormal.f k x.1 x.2⟩
theorem spec_mvNormal.ok (k : Nat) : Refl.EntOK Tryz.prog (spec_mvNormal.e k) := Refl.ent_ok 1000000 k GC (fun k => [spec_mvAll.e k, spec_mvOf.e k]) (fun k => ⟨spec_mvAll.ok k, spec_mvOf.ok k, trivial⟩) Tryz.func99 (by kernel_rfl) [] (ps := []) (by kernel_rfl) trivial (fun x => by kernel_rfl)

/-! ### spec_noHand: function 69 -/

def spec_noHand.f (k : Nat) (a0_0 : Int) (a0_1 : Int) (a0_2 : Int) (a0_3 : Int) (a0_4 : Int) (a0_5 : Bool) (a0_6 : Int) (a0_7 : Int) (a0_8 : Int) (a0_9 : Int) (a0_10 : Bool) (a0_11 : ByteArray) (a0_12 : Int) : Option (Int × Int × Int × Int × Int × Bool × Int × Int × Int × Int × Bool × ByteArray × Int) := (spec_mvNormal.f k a0_11 a0_12).bind fun bt827 => (some (a0_0, a0_1, a0_2, a0_3, a0_4, a0_5, a0_6, a0_7, a0_8, a0_9, a0_10, bt827.1, bt827.2))

theorem spec_noHand.mono : ∀ a0 a1 a2 a3 a4 a5 a6 a7 a8 a9 a10 a11 a12 k, LeO (spec_noHand.f k a0 a1 a2 a3 a4 a5 a6 a7 a8 a9 a10 a11 a12) (spec_noHand.f (k + 1) a0 a1 a2 a3 a4 a5 a6 a7 a8 a9 a10 a11 a12) := by
  intro a0 a1 a2 a3 a4 a5 a6 a7 a8 a9 a10 a11 a12 k
  unfold spec_noHand.f
  repeat' first
      | (with_reducible exact spec_mvNormal.mono _ _ _)
      | (with_reducible exact LeO.refl _)
      | (with_reducible exact LeO.none _)
      | (with_reducible refine LeO.ite ?_ ?_)
      | (with_reducible refine LeO.bind ?_ (fun _ => ?_))
      | exact spec_mvNormal.mono _ _ _
      | exact LeO.none _
      | refine LeO.ite ?_ ?_
      | refine LeO.bind ?_ (fun _ => ?_)

def spec_noHand.e (k : Nat) : Refl.Ent G := ⟨69, [(.agg gL0)], .one (.agg gL0), fun x => spec_noHand.f k x.1 x.2.1 x.2.2.1 x.2.2.2.1 x.2.2.2.2.1 x.2.2.2.2.2.1 x.2.2.2.2.2.2.1 x.2.2.2.2.2.2.2.1 x.2.2.2.2.2.2.2.2.1 x.2.2.2.2.2.2.2.2.2.1 x.2.2.2.2.2.2.2.2.2.2.1 x.2.2.2.2.2.2.2.2.2.2.2.1 x.2.2.2.2.2.2.2.2.2.2.2.2⟩
theorem spec_noHand.ok (k : Nat) : Refl.EntOK Tryz.prog (spec_noHand.e k) := Refl.ent_ok 1000000 k GC (fun k => [spec_mvNormal.e k]) (fun k => ⟨spec_mvNormal.ok k, trivial⟩) Tryz.func69 (by kernel_rfl) [] (ps := []) (by kernel_rfl) trivial (fun x => by kernel_rfl)

/-! ### spec_noForm: function 49 -/

def spec_noForm.f (k : Nat) (a0_0 : Int) (a0_1 : Int) (a0_2 : Int) (a0_3 : Int) (a0_4 : Int) (a0_5 : Bool) (a0_6 : Int) (a0_7 : Int) (a0_8 : Int) (a0_9 : Int) (a0_10 : Bool) (a0_11 : ByteArray) (a0_12 : Int) (a0_13 : Bool) (a0_14 : Int) (a0_15 : Int) (a0_16 : Int) (a0_17 : Int) (a0_18 : Int) (a0_19 : Bool) (a0_20 : Int) (a0_21 : Int) (a0_22 : Int) (a0_23 : Int) (a0_24 : Bool) (a0_25 : ByteArray) (a0_26 : Int) : Option (Int × Int × Int × Int × Int × Bool × Int × Int × Int × Int × Bool × ByteArray × Int × Bool × Int × Int × Int × Int × Int × Bool × Int × Int × Int × Int × Bool × ByteArray × Int) := (spec_noHand.f k a0_0 a0_1 a0_2 a0_3 a0_4 a0_5 a0_6 a0_7 a0_8 a0_9 a0_10 a0_11 a0_12).bind fun bt831 => (if a0_13 = true then ((spec_noHand.f k a0_14 a0_15 a0_16 a0_17 a0_18 a0_19 a0_20 a0_21 a0_22 a0_23 a0_24 a0_25 a0_26).bind fun bt845 => ((spec_siKind.f bt831.1 bt831.2.1 bt831.2.2.1 bt831.2.2.2.1 bt831.2.2.2.2.1 bt831.2.2.2.2.2.1 bt831.2.2.2.2.2.2.1 bt831.2.2.2.2.2.2.2.1 bt831.2.2.2.2.2.2.2.2.1 bt831.2.2.2.2.2.2.2.2.2.1 bt831.2.2.2.2.2.2.2.2.2.2.1 bt831.2.2.2.2.2.2.2.2.2.2.2.1 bt831.2.2.2.2.2.2.2.2.2.2.2.2 true bt845.1 bt845.2.1 bt845.2.2.1 bt845.2.2.2.1 bt845.2.2.2.2.1 bt845.2.2.2.2.2.1 bt845.2.2.2.2.2.2.1 bt845.2.2.2.2.2.2.2.1 bt845.2.2.2.2.2.2.2.2.1 bt845.2.2.2.2.2.2.2.2.2.1 bt845.2.2.2.2.2.2.2.2.2.2.1 bt845.2.2.2.2.2.2.2.2.2.2.2.1 bt845.2.2.2.2.2.2.2.2.2.2.2.2).bind fun t858 => (if t858 = 1 then ((spec_siText.f k bt845.1 bt845.2.1 bt845.2.2.1 bt845.2.2.2.1 bt845.2.2.2.2.1 bt845.2.2.2.2.2.1 bt845.2.2.2.2.2.2.1 bt845.2.2.2.2.2.2.2.1 bt845.2.2.2.2.2.2.2.2.1 bt845.2.2.2.2.2.2.2.2.2.1 bt845.2.2.2.2.2.2.2.2.2.2.1 bt845.2.2.2.2.2.2.2.2.2.2.2.1 bt845.2.2.2.2.2.2.2.2.2.2.2.2).bind fun t859 => ((spec_siText.f k bt831.1 bt831.2.1 bt831.2.2.1 bt831.2.2.2.1 bt831.2.2.2.2.1 bt831.2.2.2.2.2.1 bt831.2.2.2.2.2.2.1 bt831.2.2.2.2.2.2.2.1 bt831.2.2.2.2.2.2.2.2.1 bt831.2.2.2.2.2.2.2.2.2.1 bt831.2.2.2.2.2.2.2.2.2.2.1 bt831.2.2.2.2.2.2.2.2.2.2.2.1 bt831.2.2.2.2.2.2.2.2.2.2.2.2).bind fun t860 => (if (Op.bytesLess t859.toList t860.toList) = true then (some (bt845.1, bt845.2.1, bt845.2.2.1, bt845.2.2.2.1, bt845.2.2.2.2.1, bt845.2.2.2.2.2.1, bt845.2.2.2.2.2.2.1, bt845.2.2.2.2.2.2.2.1, bt845.2.2.2.2.2.2.2.2.1, bt845.2.2.2.2.2.2.2.2.2.1, bt845.2.2.2.2.2.2.2.2.2.2.1, bt845.2.2.2.2.2.2.2.2.2.2.2.1, bt845.2.2.2.2.2.2.2.2.2.2.2.2, true, bt831.1, bt831.2.1, bt831.2.2.1, bt831.2.2.2.1, bt831.2.2.2.2.1, bt831.2.2.2.2.2.1, bt831.2.2.2.2.2.2.1, bt831.2.2.2.2.2.2.2.1, bt831.2.2.2.2.2.2.2.2.1, bt831.2.2.2.2.2.2.2.2.2.1, bt831.2.2.2.2.2.2.2.2.2.2.1, bt831.2.2.2.2.2.2.2.2.2.2.2.1, bt831.2.2.2.2.2.2.2.2.2.2.2.2)) else (some (bt831.1, bt831.2.1, bt831.2.2.1, bt831.2.2.2.1, bt831.2.2.2.2.1, bt831.2.2.2.2.2.1, bt831.2.2.2.2.2.2.1, bt831.2.2.2.2.2.2.2.1, bt831.2.2.2.2.2.2.2.2.1, bt831.2.2.2.2.2.2.2.2.2.1, bt831.2.2.2.2.2.2.2.2.2.2.1, bt831.2.2.2.2.2.2.2.2.2.2.2.1, bt831.2.2.2.2.2.2.2.2.2.2.2.2, true, bt845.1, bt845.2.1, bt845.2.2.1, bt845.2.2.2.1, bt845.2.2.2.2.1, bt845.2.2.2.2.2.1, bt845.2.2.2.2.2.2.1, bt845.2.2.2.2.2.2.2.1, bt845.2.2.2.2.2.2.2.2.1, bt845.2.2.2.2.2.2.2.2.2.1, bt845.2.2.2.2.2.2.2.2.2.2.1, bt845.2.2.2.2.2.2.2.2.2.2.2.1, bt845.2.2.2.2.2.2.2.2.2.2.2.2))))) else (some (bt831.1, bt831.2.1, bt831.2.2.1, bt831.2.2.2.1, bt831.2.2.2.2.1, bt831.2.2.2.2.2.1, bt831.2.2.2.2.2.2.1, bt831.2.2.2.2.2.2.2.1, bt831.2.2.2.2.2.2.2.2.1, bt831.2.2.2.2.2.2.2.2.2.1, bt831.2.2.2.2.2.2.2.2.2.2.1, bt831.2.2.2.2.2.2.2.2.2.2.2.1, bt831.2.2.2.2.2.2.2.2.2.2.2.2, true, bt845.1, bt845.2.1, bt845.2.2.1, bt845.2.2.2.1, bt845.2.2.2.2.1, bt845.2.2.2.2.2.1, bt845.2.2.2.2.2.2.1, bt845.2.2.2.2.2.2.2.1, bt845.2.2.2.2.2.2.2.2.1, bt845.2.2.2.2.2.2.2.2.2.1, bt845.2.2.2.2.2.2.2.2.2.2.1, bt845.2.2.2.2.2.2.2.2.2.2.2.1, bt845.2.2.2.2.2.2.2.2.2.2.2.2))))) else (some (bt831.1, bt831.2.1, bt831.2.2.1, bt831.2.2.2.1, bt831.2.2.2.2.1, bt831.2.2.2.2.2.1, bt831.2.2.2.2.2.2.1, bt831.2.2.2.2.2.2.2.1, bt831.2.2.2.2.2.2.2.2.1, bt831.2.2.2.2.2.2.2.2.2.1, bt831.2.2.2.2.2.2.2.2.2.2.1, bt831.2.2.2.2.2.2.2.2.2.2.2.1, bt831.2.2.2.2.2.2.2.2.2.2.2.2, false, 0, 0, 0, 0, 0, false, 0, 0, 0, 0, false, (⟨#[]⟩ : ByteArray), 0)))

theorem spec_noForm.mono : ∀ a0 a1 a2 a3 a4 a5 a6 a7 a8 a9 a10 a11 a12 a13 a14 a15 a16 a17 a18 a19 a20 a21 a22 a23 a24 a25 a26 k, LeO (spec_noForm.f k a0 a1 a2 a3 a4 a5 a6 a7 a8 a9 a10 a11 a12 a13 a14 a15 a16 a17 a18 a19 a20 a21 a22 a23 a24 a25 a26) (spec_noForm.f (k + 1) a0 a1 a2 a3 a4 a5 a6 a7 a8 a9 a10 a11 a12 a13 a14 a15 a16 a17 a18 a19 a20 a21 a22 a23 a24 a25 a26) := by
  intro a0 a1 a2 a3 a4 a5 a6 a7 a8 a9 a10 a11 a12 a13 a14 a15 a16 a17 a18 a19 a20 a21 a22 a23 a24 a25 a26 k
  unfold spec_noForm.f
  repeat' first
      | (with_reducible exact spec_noHand.mono _ _ _ _ _ _ _ _ _ _ _ _ _ _)
      | (with_reducible exact spec_siText.mono _ _ _ _ _ _ _ _ _ _ _ _ _ _)
      | (with_reducible exact LeO.refl _)
      | (with_reducible exact LeO.none _)
      | (with_reducible refine LeO.ite ?_ ?_)
      | (with_reducible refine LeO.bind ?_ (fun _ => ?_))
      | exact spec_noHand.mono _ _ _ _ _ _ _ _ _ _ _ _ _ _
      | exact spec_siText.mono _ _ _ _ _ _ _ _ _ _ _ _ _ _
      | exact LeO.none _
      | refine LeO.ite ?_ ?_
      | refine LeO.bind ?_ (fun _ => ?_)

def spec_noForm.e (k : Nat) : Refl.Ent G := ⟨49, [(.agg gL5)], .one (.agg gL5), fun x => spec_noForm.f k x.1 x.2.1 x.2.2.1 x.2.2.2.1 x.2.2.2.2.1 x.2.2.2.2.2.1 x.2.2.2.2.2.2.1 x.2.2.2.2.2.2.2.1 x.2.2.2.2.2.2.2.2.1 x.2.2.2.2.2.2.2.2.2.1 x.2.2.2.2.2.2.2.2.2.2.1 x.2.2.2.2.2.2.2.2.2.2.2.1 x.2.2.2.2.2.2.2.2.2.2.2.2.1 x.2.2.2.2.2.2.2.2.2.2.2.2.2.1 x.2.2.2.2.2.2.2.2.2.2.2.2.2.2.1 x.2.2.2.2.2.2.2.2.2.2.2.2.2.2.2.1 x.2.2.2.2.2.2.2.2.2.2.2.2.2.2.2.2.1 x.2.2.2.2.2.2.2.2.2.2.2.2.2.2.2.2.2.1 x.2.2.2.2.2.2.2.2.2.2.2.2.2.2.2.2.2.2.1 x.2.2.2.2.2.2.2.2.2.2.2.2.2.2.2.2.2.2.2.1 x.2.2.2.2.2.2.2.2.2.2.2.2.2.2.2.2.2.2.2.2.1 x.2.2.2.2.2.2.2.2.2.2.2.2.2.2.2.2.2.2.2.2.2.1 x.2.2.2.2.2.2.2.2.2.2.2.2.2.2.2.2.2.2.2.2.2.2.1 x.2.2.2.2.2.2.2.2.2.2.2.2.2.2.2.2.2.2.2.2.2.2.2.1 x.2.2.2.2.2.2.2.2.2.2.2.2.2.2.2.2.2.2.2.2.2.2.2.2.1 x.2.2.2.2.2.2.2.2.2.2.2.2.2.2.2.2.2.2.2.2.2.2.2.2.2.1 x.2.2.2.2.2.2.2.2.2.2.2.2.2.2.2.2.2.2.2.2.2.2.2.2.2.2⟩
theorem spec_noForm.ok (k : Nat) : Refl.EntOK Tryz.prog (spec_noForm.e k) := Refl.ent_ok 1000000 k GC (fun k => [spec_noHand.e k, spec_siKind.e k, spec_siText.e k]) (fun k => ⟨spec_noHand.ok k, spec_siKind.ok k, spec_siText.ok k, trivial⟩) Tryz.func49 (by kernel_rfl) [] (ps := []) (by kernel_rfl) trivial (fun x => by kernel_rfl)

/-! ### spec_IsNormal: function 27 -/

def spec_IsNormal.f (k : Nat) (a0_0 : Int) (a0_1 : Int) (a0_2 : Int) (a0_3 : Int) (a0_4 : Int) (a0_5 : Bool) (a0_6 : Int) (a0_7 : Int) (a0_8 : Int) (a0_9 : Int) (a0_10 : Bool) (a0_11 : ByteArray) (a0_12 : Int) (a0_13 : Bool) (a0_14 : Int) (a0_15 : Int) (a0_16 : Int) (a0_17 : Int) (a0_18 : Int) (a0_19 : Bool) (a0_20 : Int) (a0_21 : Int) (a0_22 : Int) (a0_23 : Int) (a0_24 : Bool) (a0_25 : ByteArray) (a0_26 : Int) : Option (Bool × Bool) := (spec_siGood.f k a0_0 a0_1 a0_2 a0_3 a0_4 a0_5 a0_6 a0_7 a0_8 a0_9 a0_10 a0_11 a0_12 a0_13 a0_14 a0_15 a0_16 a0_17 a0_18 a0_19 a0_20 a0_21 a0_22 a0_23 a0_24 a0_25 a0_26).bind fun t863 => (if t863 = true then ((spec_noForm.f k a0_0 a0_1 a0_2 a0_3 a0_4 a0_5 a0_6 a0_7 a0_8 a0_9 a0_10 a0_11 a0_12 a0_13 a0_14 a0_15 a0_16 a0_17 a0_18 a0_19 a0_20 a0_21 a0_22 a0_23 a0_24 a0_25 a0_26).bind fun bt864 => (some ((((bt864.1 == a0_0 && (bt864.2.1 == a0_1 && (bt864.2.2.1 == a0_2 && (bt864.2.2.2.1 == a0_3 && (bt864.2.2.2.2.1 == a0_4 && (bt864.2.2.2.2.2.1 == a0_5)))))) && ((bt864.2.2.2.2.2.2.1 == a0_6 && (bt864.2.2.2.2.2.2.2.1 == a0_7)) && ((bt864.2.2.2.2.2.2.2.2.1 == a0_8 && (bt864.2.2.2.2.2.2.2.2.2.1 == a0_9 && (bt864.2.2.2.2.2.2.2.2.2.2.1 == a0_10))) && ((bt864.2.2.2.2.2.2.2.2.2.2.2.1.toList == a0_11.toList && (bt864.2.2.2.2.2.2.2.2.2.2.2.2.1 == a0_12)))))) && (bt864.2.2.2.2.2.2.2.2.2.2.2.2.2.1 == a0_13 && (((bt864.2.2.2.2.2.2.2.2.2.2.2.2.2.2.1 == a0_14 && (bt864.2.2.2.2.2.2.2.2.2.2.2.2.2.2.2.1 == a0_15 && (bt864.2.2.2.2.2.2.2.2.2.2.2.2.2.2.2.2.1 == a0_16 && (bt864.2.2.2.2.2.2.2.2.2.2.2.2.2.2.2.2.2.1 == a0_17 && (bt864.2.2.2.2.2.2.2.2.2.2.2.2.2.2.2.2.2.2.1 == a0_18 && (bt864.2.2.2.2.2.2.2.2.2.2.2.2.2.2.2.2.2.2.2.1 == a0_19)))))) && ((bt864.2.2.2.2.2.2.2.2.2.2.2.2.2.2.2.2.2.2.2.2.1 == a0_20 && (bt864.2.2.2.2.2.2.2.2.2.2.2.2.2.2.2.2.2.2.2.2.2.1 == a0_21)) && ((bt864.2.2.2.2.2.2.2.2.2.2.2.2.2.2.2.2.2.2.2.2.2.2.1 == a0_22 && (bt864.2.2.2.2.2.2.2.2.2.2.2.2.2.2.2.2.2.2.2.2.2.2.2.1 == a0_23 && (bt864.2.2.2.2.2.2.2.2.2.2.2.2.2.2.2.2.2.2.2.2.2.2.2.2.1 == a0_24))) && ((bt864.2.2.2.2.2.2.2.2.2.2.2.2.2.2.2.2.2.2.2.2.2.2.2.2.2.1.toList == a0_25.toList && (bt864.2.2.2.2.2.2.2.2.2.2.2.2.2.2.2.2.2.2.2.2.2.2.2.2.2.2 == a0_26))))))))), true))) else (some (false, false)))

theorem spec_IsNormal.mono : ∀ a0 a1 a2 a3 a4 a5 a6 a7 a8 a9 a10 a11 a12 a13 a14 a15 a16 a17 a18 a19 a20 a21 a22 a23 a24 a25 a26 k, LeO (spec_IsNormal.f k a0 a1 a2 a3 a4 a5 a6 a7 a8 a9 a10 a11 a12 a13 a14 a15 a16 a17 a18 a19 a20 a21 a22 a23 a24 a25 a26) (spec_IsNormal.f (k + 1) a0 a1 a2 a3 a4 a5 a6 a7 a8 a9 a10 a11 a12 a13 a14 a15 a16 a17 a18 a19 a20 a21 a22 a23 a24 a25 a26) := by
  intro a0 a1 a2 a3 a4 a5 a6 a7 a8 a9 a10 a11 a12 a13 a14 a15 a16 a17 a18 a19 a20 a21 a22 a23 a24 a25 a26 k
  unfold spec_IsNormal.f
  repeat' first
      | (with_reducible exact spec_noForm.mono _ _ _ _ _ _ _ _ _ _ _ _ _ _ _ _ _ _ _ _ _ _ _ _ _ _ _ _)
      | (with_reducible exact spec_siGood.mono _ _ _ _ _ _ _ _ _ _ _ _ _ _ _ _ _ _ _ _ _ _ _ _ _ _ _ _)
      | (with_reducible exact LeO.refl _)
      | (with_reducible exact LeO.none _)
      | (with_reducible refine LeO.ite ?_ ?_)
      | (with_reducible refine LeO.bind ?_ (fun _ => ?_))
      | exact spec_noForm.mono _ _ _ _ _ _ _ _ _ _ _ _ _ _ _ _ _ _ _ _ _ _ _ _ _ _ _ _
      | exact spec_siGood.mono _ _ _ _ _ _ _ _ _ _ _ _ _ _ _ _ _ _ _ _ _ _ _ _ _ _ _ _
      | exact LeO.none _
      | refine LeO.ite ?_ ?_
      | refine LeO.bind ?_ (fun _ => ?_)

def spec_IsNormal.e (k : Nat) : Refl.Ent G := ⟨27, [(.agg gL5)], .tup [(.c .bool), (.c .bool)], fun x => spec_IsNormal.f k x.1 x.2.1 x.2.2.1 x.2.2.2.1 x.2.2.2.2.1 x.2.2.2.2.2.1 x.2.2.2.2.2.2.1 x.2.2.2.2.2.2.2.1 x.2.2.2.2.2.2.2.2.1 x.2.2.2.2.2.2.2.2.2.1 x.2.2.2.2.2.2.2.2.2.2.1 x.2.2.2.2.2.2.2.2.2.2.2.1 x.2.2.2.2.2.2.2.2.2.2.2.2.1 x.2.2.2.2.2.2.2.2.2.2.2.2.2.1 x.2.2.2.2.2.2.2.2.2.2.2.2.2.2.1 x.2.2.2.2.2.2.2.2.2.2.2.2.2.2.2.1 x.2.2.2.2.2.2.2.2.2.2.2.2.2.2.2.2.1 x.2.2.2.2.2.2.2.2.2.2.2.2.2.2.2.2.2.1 x.2.2.2.2.2.2.2.2.2.2.2.2.2.2.2.2.2.2.1 x.2.2.2.2.2.2.2.2.2.2.2.2.2.2.2.2.2.2.2.1 x.2.2.2.2.2.2.2.2.2.2.2.2.2.2.2.2.2.2.2.2.1 x.2.2.2.2.2.2.2.2.2.2.2.2.2.2.2.2.2.2.2.2.2.1 x.2.2.2.2.2.2.2.2.2.2.2.2.2.2.2.2.2.2.2.2.2.2.1 x.2.2.2.2.2.2.2.2.2.2.2.2.2.2.2.2.2.2.2.2.2.2.2.1 x.2.2.2.2.2.2.2.2.2.2.2.2.2.2.2.2.2.2.2.2.2.2.2.2.1 x.2.2.2.2.2.2.2.2.2.2.2.2.2.2.2.2.2.2.2.2.2.2.2.2.2.1 x.2.2.2.2.2.2.2.2.2.2.2.2.2.2.2.2.2.2.2.2.2.2.2.2.2.2⟩
theorem spec_IsNormal.ok (k : Nat) : Refl.EntOK Tryz.prog (spec_IsNormal.e k) := Refl.ent_ok 1000000 k GC (fun k => [spec_siGood.e k, spec_noForm.e k]) (fun k => ⟨spec_siGood.ok k, spec_noForm.ok k, trivial⟩) Tryz.func27 (by kernel_rfl) [] (ps := []) (by kernel_rfl) trivial (fun x => by kernel_rfl)

/-! ### impl_moveOf: function 129 -/

def impl_moveOf.l0 : Nat → ByteArray → Int → Option (ByteArray × Int × Bool)
  | 0, _, _ => none
  | k + 1, x0, x4 => if x4 ≥ 1 then (if x4 = 0 then (none) else (if 0 ≤ (wrap64 (Int.tdiv (x0.size : Int) x4)) then (if (wrap64 (Int.tdiv (x0.size : Int) x4)) ≤ (x0.size : Int) then (if ((x0.extract 0 ((wrap64 (Int.tdiv (x0.size : Int) x4)) : Int).toNat).size : Int) ≤ 6 then ((strings_Repeat.f (x0.extract 0 ((wrap64 (Int.tdiv (x0.size : Int) x4)) : Int).toNat) x4).bind fun t892 => (if t892.toList = x0.toList then (some (x0.extract 0 ((wrap64 (Int.tdiv (x0.size : Int) x4)) : Int).toNat, x4, true)) else (impl_moveOf.l0 k x0 (wrap64 (x4 - 1))))) else (impl_moveOf.l0 k x0 (wrap64 (x4 - 1)))) else (none)) else (none))) else (some ((⟨#[]⟩ : ByteArray), 0, false))

def impl_moveOf.f (k : Nat) (a0 : ByteArray) : Option (ByteArray × Int × Bool) := if a0.toList = ([] : List UInt8) then (some ((⟨#[]⟩ : ByteArray), 1, true)) else (impl_moveOf.l0 k a0 3)

theorem impl_moveOf.mono_l : ∀ k, (∀ y0 y1, LeO (impl_moveOf.l0 k y0 y1) (impl_moveOf.l0 (k + 1) y0 y1))
  | 0 => fun _ _ r h => by simp [impl_moveOf.l0] at h
  | k + 1 => by
    have ih0 := impl_moveOf.mono_l k
    · intro y0 y1
      unfold impl_moveOf.l0
      repeat' first
      | (with_reducible exact ih0 _ _)
      | (with_reducible exact LeO.refl _)
      | (with_reducible exact LeO.none _)
      | (with_reducible refine LeO.ite ?_ ?_)
      | (with_reducible refine LeO.bind ?_ (fun _ => ?_))
      | exact ih0 _ _
      | exact LeO.none _
      | refine LeO.ite ?_ ?_
      | refine LeO.bind ?_ (fun _ => ?_)

theorem impl_moveOf.mono : ∀ a0 k, LeO (impl_moveOf.f k a0) (impl_moveOf.f (k + 1) a0) := by
  intro a0 k
  have ih0 := impl_moveOf.mono_l k
  unfold impl_moveOf.f
  repeat' first
      | (with_reducible exact ih0 _ _)
      | (with_reducible exact LeO.refl _)
      | (with_reducible exact LeO.none _)
      | (with_reducible refine LeO.ite ?_ ?_)
      | (with_reducible refine LeO.bind ?_ (fun _ => ?_))
      | exact ih0 _ _
      | exact LeO.none _
      | refine LeO.ite ?_ ?_
      | refine LeO.bind ?_ (fun _ => ?_)

def impl_moveOf.e (k : Nat) : Refl.Ent G := ⟨129, [(.c .str)], .tup [(.agg [.str, li]), (.c .bool)], fun x => impl_moveOf.f k x⟩
def impl_moveOf.pl0 : Refl.Pn G (Refl.PT G (impl_moveOf.e 0).ol) := ⟨true, 0, ⟨[(0, .v (.c .str)), (4, .v (.c li)), (2, .box 2 0), (3, .k (Value.bool false))], [(2, 36, gL3)]⟩, fun k x => impl_moveOf.l0 k x.1 x.2⟩
theorem impl_moveOf.ok (k : Nat) : Refl.EntOK Tryz.prog (impl_moveOf.e k) := Refl.ent_ok 1000000 k GC (fun k => [strings_Repeat.e k]) (fun k => ⟨strings_Repeat.ok k, trivial⟩) Tryz.func129 (by kernel_rfl) [impl_moveOf.pl0] (ps := [impl_moveOf.pl0]) (by kernel_rfl) ⟨⟨fun x => by kernel_rfl, fun k x => by kernel_rfl⟩, trivial⟩ (fun x => by kernel_rfl)

/-! ### impl_Move_normal: function 100 -/

def impl_Move_normal.f (k : Nat) (a0_0 : ByteArray) (a0_1 : Int) : Option (ByteArray × Int) := (impl_Move_all.f a0_0 a0_1).bind fun t895 => ((impl_moveOf.f k t895).bind fun bt896 => (some (bt896.1, bt896.2.1)))

theorem impl_Move_normal.mono : ∀ a0 a1 k, LeO (impl_Move_normal.f k a0 a1) (impl_Move_normal.f (k + 1) a0 a1) := by
  intro a0 a1 k
  unfold impl_Move_normal.f
  repeat' first
      | (with_reducible exact impl_moveOf.mono _ _)
      | (with_reducible exact LeO.refl _)
      | (with_reducible exact LeO.none _)
      | (with_reducible refine LeO.ite ?_ ?_)
      | (with_reducible refine LeO.bind ?_ (fun _ => ?_))
      | exact impl_moveOf.mono _ _
      | exact LeO.none _
      | refine LeO.ite ?_ ?_
      | refine LeO.bind ?_ (fun _ => ?_)

def impl_Move_normal.e (k : Nat) : Refl.Ent G := ⟨100, [(.agg [.str, li])], .one (.agg [.str, li]), fun x => impl_Move_normal.f k x.1 x.2⟩
theorem impl_Move_normal.ok (k : Nat) : Refl.EntOK Tryz.prog (impl_Move_normal.e k) := Refl.ent_ok 1000000 k GC (fun k => [impl_Move_all.e k, impl_moveOf.e k]) (fun k => ⟨impl_Move_all.ok k, impl_moveOf.ok k, trivial⟩) Tryz.func100 (by kernel_rfl) [] (ps := []) (by kernel_rfl) trivial (fun x => by kernel_rfl)

/-! ### impl_Hand_normal: function 70 -/

def impl_Hand_normal.f (k : Nat) (a0_0 : Int) (a0_1 : Int) (a0_2 : Int) (a0_3 : Int) (a0_4 : Int) (a0_5 : Bool) (a0_6 : Int) (a0_7 : Int) (a0_8 : Int) (a0_9 : Int) (a0_10 : Bool) (a0_11 : ByteArray) (a0_12 : Int) : Option (Int × Int × Int × Int × Int × Bool × Int × Int × Int × Int × Bool × ByteArray × Int) := (impl_Move_normal.f k a0_11 a0_12).bind fun bt902 => (some (a0_0, a0_1, a0_2, a0_3, a0_4, a0_5, a0_6, a0_7, a0_8, a0_9, a0_10, bt902.1, bt902.2))

theorem impl_Hand_normal.mono : ∀ a0 a1 a2 a3 a4 a5 a6 a7 a8 a9 a10 a11 a12 k, LeO (impl_Hand_normal.f k a0 a1 a2 a3 a4 a5 a6 a7 a8 a9 a10 a11 a12) (impl_Hand_normal.f (k + 1) a0 a1 a2 a3 a4 a5 a6 a7 a8 a9 a10 a11 a12) := by
  intro a0 a1 a2 a3 a4 a5 a6 a7 a8 a9 a10 a11 a12 k
  unfold impl_Hand_normal.f
  repeat' first
      | (with_reducible exact impl_Move_normal.mono _ _ _)
      | (with_reducible exact LeO.refl _)
      | (with_reducible exact LeO.none _)
      | (with_reducible refine LeO.ite ?_ ?_)
      | (with_reducible refine LeO.bind ?_ (fun _ => ?_))
      | exact impl_Move_normal.mono _ _ _
      | exact LeO.none _
      | refine LeO.ite ?_ ?_
      | refine LeO.bind ?_ (fun _ => ?_)

def impl_Hand_normal.e (k : Nat) : Refl.Ent G := ⟨70, [(.agg gL0)], .one (.agg gL0), fun x => impl_Hand_normal.f k x.1 x.2.1 x.2.2.1 x.2.2.2.1 x.2.2.2.2.1 x.2.2.2.2.2.1 x.2.2.2.2.2.2.1 x.2.2.2.2.2.2.2.1 x.2.2.2.2.2.2.2.2.1 x.2.2.2.2.2.2.2.2.2.1 x.2.2.2.2.2.2.2.2.2.2.1 x.2.2.2.2.2.2.2.2.2.2.2.1 x.2.2.2.2.2.2.2.2.2.2.2.2⟩
theorem impl_Hand_normal.ok (k : Nat) : Refl.EntOK Tryz.prog (impl_Hand_normal.e k) := Refl.ent_ok 1000000 k GC (fun k => [impl_Move_normal.e k]) (fun k => ⟨impl_Move_normal.ok k, trivial⟩) Tryz.func70 (by kernel_rfl) [] (ps := []) (by kernel_rfl) trivial (fun x => by kernel_rfl)

end Go.Proofs.YtelldeeokpjchaaGreatDoor.PA
