-- Written by a program of this session (wip/tools/myprint.py). Not trusted: Lean checks it.
import Derived.Test.YtojfncpjgpklhaaGreatDoorCtx
import Derived.Test.YtojfncpjgpklhaaGreatDoorPAx1
import Derived.Test.YtojfncpjgpklhaaGreatDoorPAx6
import Derived.Test.YtojfncpjgpklhaaGreatDoorPAx7
namespace Go.Proofs.YtojfncpjgpklhaaGreatDoor.PA
open Go.RowKit Go.Proofs.YtojfncpjgpklhaaGreatDoorW.PrintWords Go.Proofs.YtojfncpjgpklhaaGreatDoorW.PrintLast Go.Proofs.YtojfncpjgpklhaaGreatDoorW.PrintMore
attribute [local go_sem] max2_int min2_int max_two min_two max_three min_three max_four min_four   -- for this text's walks alone
set_option linter.unusedVariables false
set_option linter.unusedSimpArgs false

attribute [local go_sem high] eqA37
/-! ### spec_feBoth: function 60 -/

def spec_feBoth.f (k : Nat) (a0_0 : Int) (a0_1 : Int) (a0_2 : Int) (a0_3 : Int) (a0_4 : Int) (a0_5 : Bool) (a0_6 : Int) (a0_7 : Int) (a0_8 : Int) (a0_9 : Int) (a0_10 : Bool) (a0_11 : ByteArray) (a0_12 : Int) (a0_13 : Bool) (a0_14 : Int) (a0_15 : Int) (a0_16 : Int) (a0_17 : Int) (a0_18 : Int) (a0_19 : Bool) (a0_20 : Int) (a0_21 : Int) (a0_22 : Int) (a0_23 : Int) (a0_24 : Bool) (a0_25 : ByteArray) (a0_26 : Int) (a1_0 : Int) (a1_1 : Int) (a1_2 : Int) (a1_3 : Int) (a1_4 : Int) (a1_5 : Bool) (a1_6 : Int) (a1_7 : Int) (a1_8 : Int) (a1_9 : Int) (a1_10 : Bool) (a1_11 : ByteArray) (a1_12 : Int) (a1_13 : Bool) (a1_14 : Int) (a1_15 : Int) (a1_16 : Int) (a1_17 : Int) (a1_18 : Int) (a1_19 : Bool) (a1_20 : Int) (a1_21 : Int) (a1_22 : Int) (a1_23 : Int) (a1_24 : Bool) (a1_25 : ByteArray) (a1_26 : Int) : Option (Bool) := (spec_siGood.f k a0_0 a0_1 a0_2 a0_3 a0_4 a0_5 a0_6 a0_7 a0_8 a0_9 a0_10 a0_11 a0_12 a0_13 a0_14 a0_15 a0_16 a0_17 a0_18 a0_19 a0_20 a0_21 a0_22 a0_23 a0_24 a0_25 a0_26).bind fun t231 => (if t231 = true then ((spec_siGood.f k a1_0 a1_1 a1_2 a1_3 a1_4 a1_5 a1_6 a1_7 a1_8 a1_9 a1_10 a1_11 a1_12 a1_13 a1_14 a1_15 a1_16 a1_17 a1_18 a1_19 a1_20 a1_21 a1_22 a1_23 a1_24 a1_25 a1_26).bind fun t232 => (some t232)) else (some false))

theorem spec_feBoth.mono : ∀ a0 a1 a2 a3 a4 a5 a6 a7 a8 a9 a10 a11 a12 a13 a14 a15 a16 a17 a18 a19 a20 a21 a22 a23 a24 a25 a26 a27 a28 a29 a30 a31 a32 a33 a34 a35 a36 a37 a38 a39 a40 a41 a42 a43 a44 a45 a46 a47 a48 a49 a50 a51 a52 a53 k, LeO (spec_feBoth.f k a0 a1 a2 a3 a4 a5 a6 a7 a8 a9 a10 a11 a12 a13 a14 a15 a16 a17 a18 a19 a20 a21 a22 a23 a24 a25 a26 a27 a28 a29 a30 a31 a32 a33 a34 a35 a36 a37 a38 a39 a40 a41 a42 a43 a44 a45 a46 a47 a48 a49 a50 a51 a52 a53) (spec_feBoth.f (k + 1) a0 a1 a2 a3 a4 a5 a6 a7 a8 a9 a10 a11 a12 a13 a14 a15 a16 a17 a18 a19 a20 a21 a22 a23 a24 a25 a26 a27 a28 a29 a30 a31 a32 a33 a34 a35 a36 a37 a38 a39 a40 a41 a42 a43 a44 a45 a46 a47 a48 a49 a50 a51 a52 a53) := by
  intro a0 a1 a2 a3 a4 a5 a6 a7 a8 a9 a10 a11 a12 a13 a14 a15 a16 a17 a18 a19 a20 a21 a22 a23 a24 a25 a26 a27 a28 a29 a30 a31 a32 a33 a34 a35 a36 a37 a38 a39 a40 a41 a42 a43 a44 a45 a46 a47 a48 a49 a50 a51 a52 a53 k
  unfold spec_feBoth.f
  repeat' first
      | (with_reducible exact spec_siGood.mono _ _ _ _ _ _ _ _ _ _ _ _ _ _ _ _ _ _ _ _ _ _ _ _ _ _ _ _)
      | (with_reducible exact LeO.refl _)
      | (with_reducible exact LeO.none _)
      | (with_reducible refine LeO.ite ?_ ?_)
      | (with_reducible refine LeO.bind ?_ (fun _ => ?_))
      | exact spec_siGood.mono _ _ _ _ _ _ _ _ _ _ _ _ _ _ _ _ _ _ _ _ _ _ _ _ _ _ _ _
      | exact LeO.none _
      | refine LeO.ite ?_ ?_
      | refine LeO.bind ?_ (fun _ => ?_)

def spec_feBoth.e (k : Nat) : Refl.Ent G := ⟨60, [(.agg gL1), (.agg gL1)], .one (.c .bool), fun x => spec_feBoth.f k x.1 x.2.1 x.2.2.1 x.2.2.2.1 x.2.2.2.2.1 x.2.2.2.2.2.1 x.2.2.2.2.2.2.1 x.2.2.2.2.2.2.2.1 x.2.2.2.2.2.2.2.2.1 x.2.2.2.2.2.2.2.2.2.1 x.2.2.2.2.2.2.2.2.2.2.1 x.2.2.2.2.2.2.2.2.2.2.2.1 x.2.2.2.2.2.2.2.2.2.2.2.2.1 x.2.2.2.2.2.2.2.2.2.2.2.2.2.1 x.2.2.2.2.2.2.2.2.2.2.2.2.2.2.1 x.2.2.2.2.2.2.2.2.2.2.2.2.2.2.2.1 x.2.2.2.2.2.2.2.2.2.2.2.2.2.2.2.2.1 x.2.2.2.2.2.2.2.2.2.2.2.2.2.2.2.2.2.1 x.2.2.2.2.2.2.2.2.2.2.2.2.2.2.2.2.2.2.1 x.2.2.2.2.2.2.2.2.2.2.2.2.2.2.2.2.2.2.2.1 x.2.2.2.2.2.2.2.2.2.2.2.2.2.2.2.2.2.2.2.2.1 x.2.2.2.2.2.2.2.2.2.2.2.2.2.2.2.2.2.2.2.2.2.1 x.2.2.2.2.2.2.2.2.2.2.2.2.2.2.2.2.2.2.2.2.2.2.1 x.2.2.2.2.2.2.2.2.2.2.2.2.2.2.2.2.2.2.2.2.2.2.2.1 x.2.2.2.2.2.2.2.2.2.2.2.2.2.2.2.2.2.2.2.2.2.2.2.2.1 x.2.2.2.2.2.2.2.2.2.2.2.2.2.2.2.2.2.2.2.2.2.2.2.2.2.1 x.2.2.2.2.2.2.2.2.2.2.2.2.2.2.2.2.2.2.2.2.2.2.2.2.2.2.1 x.2.2.2.2.2.2.2.2.2.2.2.2.2.2.2.2.2.2.2.2.2.2.2.2.2.2.2.1 x.2.2.2.2.2.2.2.2.2.2.2.2.2.2.2.2.2.2.2.2.2.2.2.2.2.2.2.2.1 x.2.2.2.2.2.2.2.2.2.2.2.2.2.2.2.2.2.2.2.2.2.2.2.2.2.2.2.2.2.1 x.2.2.2.2.2.2.2.2.2.2.2.2.2.2.2.2.2.2.2.2.2.2.2.2.2.2.2.2.2.2.1 x.2.2.2.2.2.2.2.2.2.2.2.2.2.2.2.2.2.2.2.2.2.2.2.2.2.2.2.2.2.2.2.1 x.2.2.2.2.2.2.2.2.2.2.2.2.2.2.2.2.2.2.2.2.2.2.2.2.2.2.2.2.2.2.2.2.1 x.2.2.2.2.2.2.2.2.2.2.2.2.2.2.2.2.2.2.2.2.2.2.2.2.2.2.2.2.2.2.2.2.2.1 x.2.2.2.2.2.2.2.2.2.2.2.2.2.2.2.2.2.2.2.2.2.2.2.2.2.2.2.2.2.2.2.2.2.2.1 x.2.2.2.2.2.2.2.2.2.2.2.2.2.2.2.2.2.2.2.2.2.2.2.2.2.2.2.2.2.2.2.2.2.2.2.1 x.2.2.2.2.2.2.2.2.2.2.2.2.2.2.2.2.2.2.2.2.2.2.2.2.2.2.2.2.2.2.2.2.2.2.2.2.1 x.2.2.2.2.2.2.2.2.2.2.2.2.2.2.2.2.2.2.2.2.2.2.2.2.2.2.2.2.2.2.2.2.2.2.2.2.2.1 x.2.2.2.2.2.2.2.2.2.2.2.2.2.2.2.2.2.2.2.2.2.2.2.2.2.2.2.2.2.2.2.2.2.2.2.2.2.2.1 x.2.2.2.2.2.2.2.2.2.2.2.2.2.2.2.2.2.2.2.2.2.2.2.2.2.2.2.2.2.2.2.2.2.2.2.2.2.2.2.1 x.2.2.2.2.2.2.2.2.2.2.2.2.2.2.2.2.2.2.2.2.2.2.2.2.2.2.2.2.2.2.2.2.2.2.2.2.2.2.2.2.1 x.2.2.2.2.2.2.2.2.2.2.2.2.2.2.2.2.2.2.2.2.2.2.2.2.2.2.2.2.2.2.2.2.2.2.2.2.2.2.2.2.2.1 x.2.2.2.2.2.2.2.2.2.2.2.2.2.2.2.2.2.2.2.2.2.2.2.2.2.2.2.2.2.2.2.2.2.2.2.2.2.2.2.2.2.2.1 x.2.2.2.2.2.2.2.2.2.2.2.2.2.2.2.2.2.2.2.2.2.2.2.2.2.2.2.2.2.2.2.2.2.2.2.2.2.2.2.2.2.2.2.1 x.2.2.2.2.2.2.2.2.2.2.2.2.2.2.2.2.2.2.2.2.2.2.2.2.2.2.2.2.2.2.2.2.2.2.2.2.2.2.2.2.2.2.2.2.1 x.2.2.2.2.2.2.2.2.2.2.2.2.2.2.2.2.2.2.2.2.2.2.2.2.2.2.2.2.2.2.2.2.2.2.2.2.2.2.2.2.2.2.2.2.2.1 x.2.2.2.2.2.2.2.2.2.2.2.2.2.2.2.2.2.2.2.2.2.2.2.2.2.2.2.2.2.2.2.2.2.2.2.2.2.2.2.2.2.2.2.2.2.2.1 x.2.2.2.2.2.2.2.2.2.2.2.2.2.2.2.2.2.2.2.2.2.2.2.2.2.2.2.2.2.2.2.2.2.2.2.2.2.2.2.2.2.2.2.2.2.2.2.1 x.2.2.2.2.2.2.2.2.2.2.2.2.2.2.2.2.2.2.2.2.2.2.2.2.2.2.2.2.2.2.2.2.2.2.2.2.2.2.2.2.2.2.2.2.2.2.2.2.1 x.2.2.2.2.2.2.2.2.2.2.2.2.2.2.2.2.2.2.2.2.2.2.2.2.2.2.2.2.2.2.2.2.2.2.2.2.2.2.2.2.2.2.2.2.2.2.2.2.2.1 x.2.2.2.2.2.2.2.2.2.2.2.2.2.2.2.2.2.2.2.2.2.2.2.2.2.2.2.2.2.2.2.2.2.2.2.2.2.2.2.2.2.2.2.2.2.2.2.2.2.2.1 x.2.2.2.2.2.2.2.2.2.2.2.2.2.2.2.2.2.2.2.2.2.2.2.2.2.2.2.2.2.2.2.2.2.2.2.2.2.2.2.2.2.2.2.2.2.2.2.2.2.2.2.1 x.2.2.2.2.2.2.2.2.2.2.2.2.2.2.2.2.2.2.2.2.2.2.2.2.2.2.2.2.2.2.2.2.2.2.2.2.2.2.2.2.2.2.2.2.2.2.2.2.2.2.2.2.1 x.2.2.2.2.2.2.2.2.2.2.2.2.2.2.2.2.2.2.2.2.2.2.2.2.2.2.2.2.2.2.2.2.2.2.2.2.2.2.2.2.2.2.2.2.2.2.2.2.2.2.2.2.2⟩
theorem spec_feBoth.ok (k : Nat) : Refl.EntOK Tryz.prog (spec_feBoth.e k) := Refl.ent_ok 1000000 k GC (fun k => [spec_siGood.e k]) (fun k => ⟨spec_siGood.ok k, trivial⟩) Tryz.func60 (by kernel_rfl) [] (ps := []) (by kernel_rfl) trivial (fun x => by kernel_rfl)

/-! ### spec_mvOf: function 175 -/

mutual
def spec_mvOf.l0 : Nat → ByteArray → Int → Option (ByteArray × Int × Bool)
  | 0, _, _ => none
  | k + 1, x0, x4 => if x4 ≤ 6 then (spec_mvOf.j1 k x0 x4 (decide (x4 ≤ (x0.size : Int)))) else (spec_mvOf.j1 k x0 x4 false)
def spec_mvOf.j1 : Nat → ByteArray → Int → Bool → Option (ByteArray × Int × Bool)
  | 0, _, _, _ => none
  | k + 1, x0, x4, x16 => if x16 = true then (spec_mvOf.l1 k x0 x4 1) else (some ((⟨#[]⟩ : ByteArray), 0, false))
def spec_mvOf.l1 : Nat → ByteArray → Int → Int → Option (ByteArray × Int × Bool)
  | 0, _, _, _ => none
  | k + 1, x0, x4, x5 => if x5 ≤ 3 then (if 0 ≤ x4 then (if x4 ≤ (x0.size : Int) then ((spec_mvTimes.f k (x0.extract 0 (x4 : Int).toNat) x5).bind fun t234 => (if t234.toList = x0.toList then (if 0 ≤ x4 then (if x4 ≤ (x0.size : Int) then (some (x0.extract 0 (x4 : Int).toNat, x5, true)) else (none)) else (none)) else (spec_mvOf.l1 k x0 x4 (wrap64 (x5 + 1))))) else (none)) else (none)) else (spec_mvOf.l0 k x0 (wrap64 (x4 + 1)))
end

def spec_mvOf.f (k : Nat) (a0 : ByteArray) : Option (ByteArray × Int × Bool) := if a0.toList = ([] : List UInt8) then (some ((⟨#[]⟩ : ByteArray), 1, true)) else (spec_mvOf.l0 k a0 1)

theorem spec_mvOf.mono_l : ∀ k, (∀ y0 y1, LeO (spec_mvOf.l0 k y0 y1) (spec_mvOf.l0 (k + 1) y0 y1)) ∧ (∀ y0 y1 y2, LeO (spec_mvOf.j1 k y0 y1 y2) (spec_mvOf.j1 (k + 1) y0 y1 y2)) ∧ (∀ y0 y1 y2, LeO (spec_mvOf.l1 k y0 y1 y2) (spec_mvOf.l1 (k + 1) y0 y1 y2))
  | 0 => ⟨fun _ _ r h => by simp [spec_mvOf.l0] at h, fun _ _ _ r h => by simp [spec_mvOf.j1] at h, fun _ _ _ r h => by simp [spec_mvOf.l1] at h⟩
  | k + 1 => by
    obtain ⟨ih0, ih1, ih2⟩ := spec_mvOf.mono_l k
    refine ⟨?_, ?_, ?_⟩
    · intro y0 y1
      unfold spec_mvOf.l0
      repeat' first
      | (with_reducible exact ih0 _ _)
      | (with_reducible exact ih1 _ _ _)
      | (with_reducible exact ih2 _ _ _)
      | (with_reducible exact spec_mvTimes.mono _ _ _)
      | (with_reducible exact LeO.refl _)
      | (with_reducible exact LeO.none _)
      | (with_reducible refine LeO.ite ?_ ?_)
      | (with_reducible refine LeO.bind ?_ (fun _ => ?_))
      | exact ih0 _ _
      | exact ih1 _ _ _
      | exact ih2 _ _ _
      | exact spec_mvTimes.mono _ _ _
      | exact LeO.none _
      | refine LeO.ite ?_ ?_
      | refine LeO.bind ?_ (fun _ => ?_)
    · intro y0 y1 y2
      unfold spec_mvOf.j1
      repeat' first
      | (with_reducible exact ih0 _ _)
      | (with_reducible exact ih1 _ _ _)
      | (with_reducible exact ih2 _ _ _)
      | (with_reducible exact spec_mvTimes.mono _ _ _)
      | (with_reducible exact LeO.refl _)
      | (with_reducible exact LeO.none _)
      | (with_reducible refine LeO.ite ?_ ?_)
      | (with_reducible refine LeO.bind ?_ (fun _ => ?_))
      | exact ih0 _ _
      | exact ih1 _ _ _
      | exact ih2 _ _ _
      | exact spec_mvTimes.mono _ _ _
      | exact LeO.none _
      | refine LeO.ite ?_ ?_
      | refine LeO.bind ?_ (fun _ => ?_)
    · intro y0 y1 y2
      unfold spec_mvOf.l1
      repeat' first
      | (with_reducible exact ih0 _ _)
      | (with_reducible exact ih1 _ _ _)
      | (with_reducible exact ih2 _ _ _)
      | (with_reducible exact spec_mvTimes.mono _ _ _)
      | (with_reducible exact LeO.refl _)
      | (with_reducible exact LeO.none _)
      | (with_reducible refine LeO.ite ?_ ?_)
      | (with_reducible refine LeO.bind ?_ (fun _ => ?_))
      | exact ih0 _ _
      | exact ih1 _ _ _
      | exact ih2 _ _ _
      | exact spec_mvTimes.mono _ _ _
      | exact LeO.none _
      | refine LeO.ite ?_ ?_
      | refine LeO.bind ?_ (fun _ => ?_)

theorem spec_mvOf.mono : ∀ a0 k, LeO (spec_mvOf.f k a0) (spec_mvOf.f (k + 1) a0) := by
  intro a0 k
  obtain ⟨ih0, ih1, ih2⟩ := spec_mvOf.mono_l k
  unfold spec_mvOf.f
  repeat' first
      | (with_reducible exact ih0 _ _)
      | (with_reducible exact ih1 _ _ _)
      | (with_reducible exact ih2 _ _ _)
      | (with_reducible exact spec_mvTimes.mono _ _ _)
      | (with_reducible exact LeO.refl _)
      | (with_reducible exact LeO.none _)
      | (with_reducible refine LeO.ite ?_ ?_)
      | (with_reducible refine LeO.bind ?_ (fun _ => ?_))
      | exact ih0 _ _
      | exact ih1 _ _ _
      | exact ih2 _ _ _
      | exact spec_mvTimes.mono _ _ _
      | exact LeO.none _
      | refine LeO.ite ?_ ?_
      | refine LeO.bind ?_ (fun _ => ?_)

def spec_mvOf.e (k : Nat) : Refl.Ent G := ⟨175, [(.c .str)], .tup [(.agg [.str, li]), (.c .bool)], fun x => spec_mvOf.f k x⟩
def spec_mvOf.pl0 : Refl.Pn G (Refl.PT G (spec_mvOf.e 0).ol) := ⟨true, 0, ⟨[(0, .v (.c .str)), (4, .v (.c li)), (2, .box 2 0), (3, .k (Value.bool false))], [(2, 40, gL4)]⟩, fun k x => spec_mvOf.l0 k x.1 x.2⟩
def spec_mvOf.pj1 : Refl.Pn G (Refl.PT G (spec_mvOf.e 0).ol) := ⟨false, 1000004, ⟨[(0, .v (.c .str)), (4, .v (.c li)), (16, .v (.c .bool)), (2, .box 2 0), (3, .k (Value.bool false))], [(2, 40, gL4)]⟩, fun k x => spec_mvOf.j1 k x.1 x.2.1 x.2.2⟩
def spec_mvOf.pl1 : Refl.Pn G (Refl.PT G (spec_mvOf.e 0).ol) := ⟨true, 2, ⟨[(0, .v (.c .str)), (4, .v (.c li)), (5, .v (.c li)), (2, .box 2 0), (3, .k (Value.bool false))], [(2, 40, gL4)]⟩, fun k x => spec_mvOf.l1 k x.1 x.2.1 x.2.2⟩
theorem spec_mvOf.ok (k : Nat) : Refl.EntOK Tryz.prog (spec_mvOf.e k) := Refl.ent_ok 1000000 k GC (fun k => [spec_mvTimes.e k]) (fun k => ⟨spec_mvTimes.ok k, trivial⟩) Tryz.func175 (by kernel_rfl) [spec_mvOf.pl0, spec_mvOf.pj1, spec_mvOf.pl1] (ps := [spec_mvOf.pl0, spec_mvOf.pj1, spec_mvOf.pl1]) (by kernel_rfl) ⟨⟨fun x => by kernel_rfl, fun k x => by kernel_rfl⟩, ⟨fun x => by kernel_rfl, fun k x => by kernel_rfl⟩, ⟨fun x => by kernel_rfl, fun k x => by kernel_rfl⟩, trivial⟩ (fun x => by kernel_rfl)

/-! ### spec_mvNormal: function 142 -/

def spec_mvNormal.f (k : Nat) (a0_0 : ByteArray) (a0_1 : Int) : Option (ByteArray × Int) := (spec_mvAll.f k a0_0 a0_1).bind fun t237 => ((spec_mvOf.f k t237).bind fun bt238 => (some (bt238.1, bt238.2.1)))

theorem spec_mvNormal.mono : ∀ a0 a1 k, LeO (spec_mvNormal.f k a0 a1) (spec_mvNormal.f (k + 1) a0 a1) := by
  intro a0 a1 k
  unfold spec_mvNormal.f
  repeat' first
      | (with_reducible exact spec_mvAll.mono _ _ _)
      | (with_reducible exact spec_mvOf.mono _ _)
      | (with_reducible exact LeO.refl _)
      | (with_reducible exact LeO.none _)
      | (with_reducible refine LeO.ite ?_ ?_)
      | (with_reducible refine LeO.bind ?_ (fun _ => ?_))
      | exact spec_mvAll.mono _ _ _
      | exact spec_mvOf.mono _ _
      | exact LeO.none _
      | refine LeO.ite ?_ ?_
      | refine LeO.bind ?_ (fun _ => ?_)

def spec_mvNormal.e (k : Nat) : Refl.Ent G := ⟨142, [(.agg [.str, li])], .one (.agg [.str, li]), fun x => spec_mvNormal.f k x.1 x.2⟩
theorem spec_mvNormal.ok (k : Nat) : Refl.EntOK Tryz.prog (spec_mvNormal.e k) := Refl.ent_ok 1000000 k GC (fun k => [spec_mvAll.e k, spec_mvOf.e k]) (fun k => ⟨spec_mvAll.ok k, spec_mvOf.ok k, trivial⟩) Tryz.func142 (by kernel_rfl) [] (ps := []) (by kernel_rfl) trivial (fun x => by kernel_rfl)

/-! ### spec_noHand: function 94 -/

def spec_noHand.f (k : Nat) (a0_0 : Int) (a0_1 : Int) (a0_2 : Int) (a0_3 : Int) (a0_4 : Int) (a0_5 : Bool) (a0_6 : Int) (a0_7 : Int) (a0_8 : Int) (a0_9 : Int) (a0_10 : Bool) (a0_11 : ByteArray) (a0_12 : Int) : Option (Int × Int × Int × Int × Int × Bool × Int × Int × Int × Int × Bool × ByteArray × Int) := (spec_mvNormal.f k a0_11 a0_12).bind fun bt244 => (some (a0_0, a0_1, a0_2, a0_3, a0_4, a0_5, a0_6, a0_7, a0_8, a0_9, a0_10, bt244.1, bt244.2))

theorem spec_noHand.mono : ∀ a0 a1 a2 a3 a4 a5 a6 a7 a8 a9 a10 a11 a12 k, LeO (spec_noHand.f k a0 a1 a2 a3 a4 a5 a6 a7 a8 a9 a10 a11 a12) (spec_noHand.f (k + 1) a0 a1 a2 a3 a4 a5 a6 a7 a8 a9 a10 a11 a12) := by
  intro a0 a1 a2 a3 a4 a5 a6 a7 a8 a9 a10 a11 a12 k
  unfold spec_noHand.f
  repeat' first
      | (with_reducible exact spec_mvNormal.mono _ _ _)
      | (with_reducible exact LeO.refl _)
      | (with_reducible exact LeO.none _)
      | (with_reducible refine LeO.ite ?_ ?_)
      | (with_reducible refine LeO.bind ?_ (fun _ => ?_))
      | exact spec_mvNormal.mono _ _ _
      | exact LeO.none _
      | refine LeO.ite ?_ ?_
      | refine LeO.bind ?_ (fun _ => ?_)

def spec_noHand.e (k : Nat) : Refl.Ent G := ⟨94, [(.agg gL0)], .one (.agg gL0), fun x => spec_noHand.f k x.1 x.2.1 x.2.2.1 x.2.2.2.1 x.2.2.2.2.1 x.2.2.2.2.2.1 x.2.2.2.2.2.2.1 x.2.2.2.2.2.2.2.1 x.2.2.2.2.2.2.2.2.1 x.2.2.2.2.2.2.2.2.2.1 x.2.2.2.2.2.2.2.2.2.2.1 x.2.2.2.2.2.2.2.2.2.2.2.1 x.2.2.2.2.2.2.2.2.2.2.2.2⟩
theorem spec_noHand.ok (k : Nat) : Refl.EntOK Tryz.prog (spec_noHand.e k) := Refl.ent_ok 1000000 k GC (fun k => [spec_mvNormal.e k]) (fun k => ⟨spec_mvNormal.ok k, trivial⟩) Tryz.func94 (by kernel_rfl) [] (ps := []) (by kernel_rfl) trivial (fun x => by kernel_rfl)

/-! ### spec_siKind: function 95 -/

def spec_siKind.f (a0_0 : Int) (a0_1 : Int) (a0_2 : Int) (a0_3 : Int) (a0_4 : Int) (a0_5 : Bool) (a0_6 : Int) (a0_7 : Int) (a0_8 : Int) (a0_9 : Int) (a0_10 : Bool) (a0_11 : ByteArray) (a0_12 : Int) (a0_13 : Bool) (a0_14 : Int) (a0_15 : Int) (a0_16 : Int) (a0_17 : Int) (a0_18 : Int) (a0_19 : Bool) (a0_20 : Int) (a0_21 : Int) (a0_22 : Int) (a0_23 : Int) (a0_24 : Bool) (a0_25 : ByteArray) (a0_26 : Int) : Option (Int) := if a0_13 = true then (if a0_25.toList = ([] : List UInt8) then (if (a0_0 == a0_14 && (a0_1 == a0_15 && (a0_2 == a0_16 && (a0_3 == a0_17 && (a0_4 == a0_18 && (a0_5 == a0_19)))))) = true then (some 2) else (some 3)) else (some 1)) else (some 0)

def spec_siKind.e (k : Nat) : Refl.Ent G := ⟨95, [(.agg gL1)], .one (.c li), fun x => spec_siKind.f x.1 x.2.1 x.2.2.1 x.2.2.2.1 x.2.2.2.2.1 x.2.2.2.2.2.1 x.2.2.2.2.2.2.1 x.2.2.2.2.2.2.2.1 x.2.2.2.2.2.2.2.2.1 x.2.2.2.2.2.2.2.2.2.1 x.2.2.2.2.2.2.2.2.2.2.1 x.2.2.2.2.2.2.2.2.2.2.2.1 x.2.2.2.2.2.2.2.2.2.2.2.2.1 x.2.2.2.2.2.2.2.2.2.2.2.2.2.1 x.2.2.2.2.2.2.2.2.2.2.2.2.2.2.1 x.2.2.2.2.2.2.2.2.2.2.2.2.2.2.2.1 x.2.2.2.2.2.2.2.2.2.2.2.2.2.2.2.2.1 x.2.2.2.2.2.2.2.2.2.2.2.2.2.2.2.2.2.1 x.2.2.2.2.2.2.2.2.2.2.2.2.2.2.2.2.2.2.1 x.2.2.2.2.2.2.2.2.2.2.2.2.2.2.2.2.2.2.2.1 x.2.2.2.2.2.2.2.2.2.2.2.2.2.2.2.2.2.2.2.2.1 x.2.2.2.2.2.2.2.2.2.2.2.2.2.2.2.2.2.2.2.2.2.1 x.2.2.2.2.2.2.2.2.2.2.2.2.2.2.2.2.2.2.2.2.2.2.1 x.2.2.2.2.2.2.2.2.2.2.2.2.2.2.2.2.2.2.2.2.2.2.2.1 x.2.2.2.2.2.2.2.2.2.2.2.2.2.2.2.2.2.2.2.2.2.2.2.2.1 x.2.2.2.2.2.2.2.2.2.2.2.2.2.2.2.2.2.2.2.2.2.2.2.2.2.1 x.2.2.2.2.2.2.2.2.2.2.2.2.2.2.2.2.2.2.2.2.2.2.2.2.2.2⟩
theorem spec_siKind.ok (k : Nat) : Refl.EntOK Tryz.prog (spec_siKind.e k) := Refl.ent_ok 1000000 k GC (fun k => []) (fun k => trivial) Tryz.func95 (by kernel_rfl) [] (ps := []) (by kernel_rfl) trivial (fun x => by kernel_rfl)

/-! ### spec_l1Num: function 176 -/

def spec_l1Num.f : Nat → Int → Option (ByteArray)
  | 0, _ => none
  | k + 1, a0 => if a0 < 10 then (some (strOfNums (([(wrap64 (48 + a0)) % 256] : List Int)))) else ((spec_l1Num.f k (wrap64 (Int.tdiv a0 10))).bind fun t250 => ((some (([(wrap64 (48 + (Int.tmod a0 10))) % 256] : List Int) : List Int)).bind fun y251 => (if t250.size + (strOfNums y251).size ≤ 9223372036854775807 then (some (t250 ++ (strOfNums y251))) else (none))))

theorem spec_l1Num.mono_l : ∀ k, (∀ y0, LeO (spec_l1Num.f k y0) (spec_l1Num.f (k + 1) y0))
  | 0 => fun _ r h => by simp [spec_l1Num.f] at h
  | k + 1 => by
    have ih0 := spec_l1Num.mono_l k
    · intro y0
      unfold spec_l1Num.f
      repeat' first
      | (with_reducible exact ih0 _)
      | (with_reducible exact LeO.refl _)
      | (with_reducible exact LeO.none _)
      | (with_reducible refine LeO.ite ?_ ?_)
      | (with_reducible refine LeO.bind ?_ (fun _ => ?_))
      | exact ih0 _
      | exact LeO.none _
      | refine LeO.ite ?_ ?_
      | refine LeO.bind ?_ (fun _ => ?_)

theorem spec_l1Num.mono : ∀ a0 k, LeO (spec_l1Num.f k a0) (spec_l1Num.f (k + 1) a0) := by
  intro a0 k
  have ih0 := spec_l1Num.mono_l k
  exact ih0 a0

def spec_l1Num.e (k : Nat) : Refl.Ent G := ⟨176, [(.c li)], .one (.c .str), fun x => spec_l1Num.f k x⟩
theorem spec_l1Num.ok : ∀ k : Nat, Refl.EntOK Tryz.prog (spec_l1Num.e k)
 | 0 => Refl.entOK_none Tryz.func176 (by kernel_rfl) (fun x => by kernel_rfl)
 | k + 1 => Refl.ent_ok 1000000 0 GC (fun _ => [spec_l1Num.e k]) (fun _ => ⟨spec_l1Num.ok k, trivial⟩) Tryz.func176 (by kernel_rfl) [] (ps := []) (by kernel_rfl) trivial (fun x => by kernel_rfl)

/-! ### spec_shText: function 143 -/

def spec_shText.l0 : Nat → ByteArray → List Int → Int → Int → Int → Int → Int → Int → Int → Bool → Option (ByteArray)
  | 0, _, _, _, _, _, _, _, _, _, _ => none
  | k + 1, x3, x10, x11, x12, x255000, x255001, x255002, x255003, x255004, x255005 => if x12 < x11 then (if 0 ≤ x12 then (if x12 < (x10.length : Int) then ((spec_l1Num.f k (rd x10 x12)).bind fun t260 => (if x3.size + t260.size ≤ 9223372036854775807 then (spec_shText.l0 k (x3 ++ t260) x10 x11 (wrap64 (x12 + 1)) x255000 x255001 x255002 x255003 x255004 x255005) else (none))) else (none)) else (none)) else (if x255005 = true then (if x3.size + 1 ≤ 9223372036854775807 then (some (x3 ++ (⟨#[115]⟩ : ByteArray))) else (none)) else (some x3))

def spec_shText.f (k : Nat) (a0_0 : Int) (a0_1 : Int) (a0_2 : Int) (a0_3 : Int) (a0_4 : Int) (a0_5 : Bool) : Option (ByteArray) := (spec_l1Num.f k a0_0).bind fun t255 => ((spec_shFingers.f a0_0 a0_1 a0_2 a0_3 a0_4 a0_5).bind fun t256 => (spec_shText.l0 k t255 t256 (t256.length : Int) 0 a0_0 a0_1 a0_2 a0_3 a0_4 a0_5))

theorem spec_shText.mono_l : ∀ k, (∀ y0 y1 y2 y3 y4 y5 y6 y7 y8 y9, LeO (spec_shText.l0 k y0 y1 y2 y3 y4 y5 y6 y7 y8 y9) (spec_shText.l0 (k + 1) y0 y1 y2 y3 y4 y5 y6 y7 y8 y9))
  | 0 => fun _ _ _ _ _ _ _ _ _ _ r h => by simp [spec_shText.l0] at h
  | k + 1 => by
    have ih0 := spec_shText.mono_l k
    · intro y0 y1 y2 y3 y4 y5 y6 y7 y8 y9
      unfold spec_shText.l0
      repeat' first
      | (with_reducible exact ih0 _ _ _ _ _ _ _ _ _ _)
      | (with_reducible exact spec_l1Num.mono _ _)
      | (with_reducible exact LeO.refl _)
      | (with_reducible exact LeO.none _)
      | (with_reducible refine LeO.ite ?_ ?_)
      | (with_reducible refine LeO.bind ?_ (fun _ => ?_))
      | exact ih0 _ _ _ _ _ _ _ _ _ _
      | exact spec_l1Num.mono _ _
      | exact LeO.none _
      | refine LeO.ite ?_ ?_
      | refine LeO.bind ?_ (fun _ => ?_)

theorem spec_shText.mono : ∀ a0 a1 a2 a3 a4 a5 k, LeO (spec_shText.f k a0 a1 a2 a3 a4 a5) (spec_shText.f (k + 1) a0 a1 a2 a3 a4 a5) := by
  intro a0 a1 a2 a3 a4 a5 k
  have ih0 := spec_shText.mono_l k
  unfold spec_shText.f
  repeat' first
      | (with_reducible exact ih0 _ _ _ _ _ _ _ _ _ _)
      | (with_reducible exact spec_l1Num.mono _ _)
      | (with_reducible exact LeO.refl _)
      | (with_reducible exact LeO.none _)
      | (with_reducible refine LeO.ite ?_ ?_)
      | (with_reducible refine LeO.bind ?_ (fun _ => ?_))
      | exact ih0 _ _ _ _ _ _ _ _ _ _
      | exact spec_l1Num.mono _ _
      | exact LeO.none _
      | refine LeO.ite ?_ ?_
      | refine LeO.bind ?_ (fun _ => ?_)

def spec_shText.e (k : Nat) : Refl.Ent G := ⟨143, [(.agg [li, li, li, li, li, .bool])], .one (.c .str), fun x => spec_shText.f k x.1 x.2.1 x.2.2.1 x.2.2.2.1 x.2.2.2.2.1 x.2.2.2.2.2⟩
def spec_shText.pl0 : Refl.Pn G (Refl.PT G (spec_shText.e 0).ol) := ⟨true, 0, ⟨[(3, .v (.c .str)), (10, .v (.c (.row 3 false))), (11, .v (.c li)), (12, .v (.c li)), (1, .box 1 0)], [(1, 37, gL6)]⟩, fun k x => spec_shText.l0 k x.1 x.2.1 x.2.2.1 x.2.2.2.1 x.2.2.2.2.1 x.2.2.2.2.2.1 x.2.2.2.2.2.2.1 x.2.2.2.2.2.2.2.1 x.2.2.2.2.2.2.2.2.1 x.2.2.2.2.2.2.2.2.2⟩
theorem spec_shText.ok (k : Nat) : Refl.EntOK Tryz.prog (spec_shText.e k) := Refl.ent_ok 1000000 k GC (fun k => [spec_l1Num.e k, spec_shFingers.e k]) (fun k => ⟨spec_l1Num.ok k, spec_shFingers.ok k, trivial⟩) Tryz.func143 (by kernel_rfl) [spec_shText.pl0] (ps := [spec_shText.pl0]) (by kernel_rfl) ⟨⟨fun x => by kernel_rfl, fun k x => by kernel_rfl⟩, trivial⟩ (fun x => by kernel_rfl)

/-! ### spec_orText: function 144 -/

def spec_orText.f (a0_0 : Int) (a0_1 : Int) : Option (ByteArray) := if 0 ≤ a0_0 then (if a0_0 ≤ (wrap64 (a0_0 + 1)) then (if (wrap64 (a0_0 + 1)) ≤ 6 then (if 0 ≤ a0_1 then (if a0_1 ≤ (wrap64 (a0_1 + 1)) then (if (wrap64 (a0_1 + 1)) ≤ 6 then (if ((⟨#[117, 100, 108, 114, 102, 98]⟩ : ByteArray).extract (a0_0 : Int).toNat ((wrap64 (a0_0 + 1)) : Int).toNat).size + ((⟨#[117, 100, 108, 114, 102, 98]⟩ : ByteArray).extract (a0_1 : Int).toNat ((wrap64 (a0_1 + 1)) : Int).toNat).size ≤ 9223372036854775807 then (some (((⟨#[117, 100, 108, 114, 102, 98]⟩ : ByteArray).extract (a0_0 : Int).toNat ((wrap64 (a0_0 + 1)) : Int).toNat) ++ ((⟨#[117, 100, 108, 114, 102, 98]⟩ : ByteArray).extract (a0_1 : Int).toNat ((wrap64 (a0_1 + 1)) : Int).toNat))) else (none)) else (none)) else (none)) else (none)) else (none)) else (none)) else (none)

def spec_orText.e (k : Nat) : Refl.Ent G := ⟨144, [(.agg [li, li])], .one (.c .str), fun x => spec_orText.f x.1 x.2⟩
theorem spec_orText.ok (k : Nat) : Refl.EntOK Tryz.prog (spec_orText.e k) := Refl.ent_ok 1000000 k GC (fun k => []) (fun k => trivial) Tryz.func144 (by kernel_rfl) [] (ps := []) (by kernel_rfl) trivial (fun x => by kernel_rfl)

/-! ### spec_plNames: function 177 -/

def spec_plNames.f  : Option (List ByteArray) := some (([(⟨#[115, 112, 97, 99, 101]⟩ : ByteArray), (⟨#[104, 101, 97, 100]⟩ : ByteArray), (⟨#[101, 121, 101]⟩ : ByteArray), (⟨#[99, 104, 101, 101, 107]⟩ : ByteArray), (⟨#[109, 111, 117, 116, 104]⟩ : ByteArray), (⟨#[99, 104, 105, 110]⟩ : ByteArray), (⟨#[110, 101, 99, 107]⟩ : ByteArray), (⟨#[99, 104, 101, 115, 116]⟩ : ByteArray), (⟨#[119, 97, 105, 115, 116]⟩ : ByteArray), (⟨#[104, 105, 112]⟩ : ByteArray)] : List ByteArray))

def spec_plNames.e (k : Nat) : Refl.Ent G := ⟨177, [], .one (.c (.row 9 true)), fun _ => spec_plNames.f ⟩
theorem spec_plNames.ok (k : Nat) : Refl.EntOK Tryz.prog (spec_plNames.e k) := Refl.ent_ok 1000000 k GC (fun k => []) (fun k => trivial) Tryz.func177 (by kernel_rfl) [] (ps := []) (by kernel_rfl) trivial (fun x => by kernel_rfl)

/-! ### spec_plText: function 145 -/

def spec_plText.f (a0_0 : Int) (a0_1 : Int) (a0_2 : Bool) : Option (ByteArray) := (spec_plNames.f).bind fun t266 => (if 0 ≤ a0_0 then (if a0_0 < (t266.length : Int) then (if a0_1 = (-1) then (if (rdOf ByteArray.empty t266 a0_0).size + 1 ≤ 9223372036854775807 then (if a0_2 = true then (if ((rdOf ByteArray.empty t266 a0_0) ++ (⟨#[60]⟩ : ByteArray)).size + 1 ≤ 9223372036854775807 then (some (((rdOf ByteArray.empty t266 a0_0) ++ (⟨#[60]⟩ : ByteArray)) ++ (⟨#[42]⟩ : ByteArray))) else (none)) else (some ((rdOf ByteArray.empty t266 a0_0) ++ (⟨#[60]⟩ : ByteArray)))) else (none)) else (if a0_1 = 1 then (if (rdOf ByteArray.empty t266 a0_0).size + 1 ≤ 9223372036854775807 then (if a0_2 = true then (if ((rdOf ByteArray.empty t266 a0_0) ++ (⟨#[62]⟩ : ByteArray)).size + 1 ≤ 9223372036854775807 then (some (((rdOf ByteArray.empty t266 a0_0) ++ (⟨#[62]⟩ : ByteArray)) ++ (⟨#[42]⟩ : ByteArray))) else (none)) else (some ((rdOf ByteArray.empty t266 a0_0) ++ (⟨#[62]⟩ : ByteArray)))) else (none)) else (if a0_2 = true then (if (rdOf ByteArray.empty t266 a0_0).size + 1 ≤ 9223372036854775807 then (some ((rdOf ByteArray.empty t266 a0_0) ++ (⟨#[42]⟩ : ByteArray))) else (none)) else (some (rdOf ByteArray.empty t266 a0_0))))) else (none)) else (none))

def spec_plText.e (k : Nat) : Refl.Ent G := ⟨145, [(.agg [li, li, .bool])], .one (.c .str), fun x => spec_plText.f x.1 x.2.1 x.2.2⟩
theorem spec_plText.ok (k : Nat) : Refl.EntOK Tryz.prog (spec_plText.e k) := Refl.ent_ok 1000000 k GC (fun k => [spec_plNames.e k]) (fun k => ⟨spec_plNames.ok k, trivial⟩) Tryz.func145 (by kernel_rfl) [] (ps := []) (by kernel_rfl) trivial (fun x => by kernel_rfl)

/-! ### spec_mvText: function 146 -/

def spec_mvText.f (k : Nat) (a0_0 : ByteArray) (a0_1 : Int) : Option (ByteArray) := if a0_0.toList = ([] : List UInt8) then (some (⟨#[45]⟩ : ByteArray)) else (if a0_1 > 1 then (if a0_0.size + 1 ≤ 9223372036854775807 then ((spec_l1Num.f k a0_1).bind fun t271 => (if (a0_0 ++ (⟨#[42]⟩ : ByteArray)).size + t271.size ≤ 9223372036854775807 then (some ((a0_0 ++ (⟨#[42]⟩ : ByteArray)) ++ t271)) else (none))) else (none)) else (some a0_0))

theorem spec_mvText.mono : ∀ a0 a1 k, LeO (spec_mvText.f k a0 a1) (spec_mvText.f (k + 1) a0 a1) := by
  intro a0 a1 k
  unfold spec_mvText.f
  repeat' first
      | (with_reducible exact spec_l1Num.mono _ _)
      | (with_reducible exact LeO.refl _)
      | (with_reducible exact LeO.none _)
      | (with_reducible refine LeO.ite ?_ ?_)
      | (with_reducible refine LeO.bind ?_ (fun _ => ?_))
      | exact spec_l1Num.mono _ _
      | exact LeO.none _
      | refine LeO.ite ?_ ?_
      | refine LeO.bind ?_ (fun _ => ?_)

def spec_mvText.e (k : Nat) : Refl.Ent G := ⟨146, [(.agg [.str, li])], .one (.c .str), fun x => spec_mvText.f k x.1 x.2⟩
theorem spec_mvText.ok (k : Nat) : Refl.EntOK Tryz.prog (spec_mvText.e k) := Refl.ent_ok 1000000 k GC (fun k => [spec_l1Num.e k]) (fun k => ⟨spec_l1Num.ok k, trivial⟩) Tryz.func146 (by kernel_rfl) [] (ps := []) (by kernel_rfl) trivial (fun x => by kernel_rfl)

/-! ### spec_siText: function 96 -/

def spec_siText.f (k : Nat) (a0_0 : Int) (a0_1 : Int) (a0_2 : Int) (a0_3 : Int) (a0_4 : Int) (a0_5 : Bool) (a0_6 : Int) (a0_7 : Int) (a0_8 : Int) (a0_9 : Int) (a0_10 : Bool) (a0_11 : ByteArray) (a0_12 : Int) : Option (ByteArray) := (spec_shText.f k a0_0 a0_1 a0_2 a0_3 a0_4 a0_5).bind fun t273 => (if t273.size + 1 ≤ 9223372036854775807 then ((spec_orText.f a0_6 a0_7).bind fun t274 => (if (t273 ++ (⟨#[47]⟩ : ByteArray)).size + t274.size ≤ 9223372036854775807 then (if ((t273 ++ (⟨#[47]⟩ : ByteArray)) ++ t274).size + 1 ≤ 9223372036854775807 then ((spec_plText.f a0_8 a0_9 a0_10).bind fun t275 => (if (((t273 ++ (⟨#[47]⟩ : ByteArray)) ++ t274) ++ (⟨#[47]⟩ : ByteArray)).size + t275.size ≤ 9223372036854775807 then (if ((((t273 ++ (⟨#[47]⟩ : ByteArray)) ++ t274) ++ (⟨#[47]⟩ : ByteArray)) ++ t275).size + 1 ≤ 9223372036854775807 then ((spec_mvText.f k a0_11 a0_12).bind fun t276 => (if (((((t273 ++ (⟨#[47]⟩ : ByteArray)) ++ t274) ++ (⟨#[47]⟩ : ByteArray)) ++ t275) ++ (⟨#[47]⟩ : ByteArray)).size + t276.size ≤ 9223372036854775807 then (some ((((((t273 ++ (⟨#[47]⟩ : ByteArray)) ++ t274) ++ (⟨#[47]⟩ : ByteArray)) ++ t275) ++ (⟨#[47]⟩ : ByteArray)) ++ t276)) else (none))) else (none)) else (none))) else (none)) else (none))) else (none))

theorem spec_siText.mono : ∀ a0 a1 a2 a3 a4 a5 a6 a7 a8 a9 a10 a11 a12 k, LeO (spec_siText.f k a0 a1 a2 a3 a4 a5 a6 a7 a8 a9 a10 a11 a12) (spec_siText.f (k + 1) a0 a1 a2 a3 a4 a5 a6 a7 a8 a9 a10 a11 a12) := by
  intro a0 a1 a2 a3 a4 a5 a6 a7 a8 a9 a10 a11 a12 k
  unfold spec_siText.f
  repeat' first
      | (with_reducible exact spec_mvText.mono _ _ _)
      | (with_reducible exact spec_shText.mono _ _ _ _ _ _ _)
      | (with_reducible exact LeO.refl _)
      | (with_reducible exact LeO.none _)
      | (with_reducible refine LeO.ite ?_ ?_)
      | (with_reducible refine LeO.bind ?_ (fun _ => ?_))
      | exact spec_mvText.mono _ _ _
      | exact spec_shText.mono _ _ _ _ _ _ _
      | exact LeO.none _
      | refine LeO.ite ?_ ?_
      | refine LeO.bind ?_ (fun _ => ?_)

def spec_siText.e (k : Nat) : Refl.Ent G := ⟨96, [(.agg gL0)], .one (.c .str), fun x => spec_siText.f k x.1 x.2.1 x.2.2.1 x.2.2.2.1 x.2.2.2.2.1 x.2.2.2.2.2.1 x.2.2.2.2.2.2.1 x.2.2.2.2.2.2.2.1 x.2.2.2.2.2.2.2.2.1 x.2.2.2.2.2.2.2.2.2.1 x.2.2.2.2.2.2.2.2.2.2.1 x.2.2.2.2.2.2.2.2.2.2.2.1 x.2.2.2.2.2.2.2.2.2.2.2.2⟩
theorem spec_siText.ok (k : Nat) : Refl.EntOK Tryz.prog (spec_siText.e k) := Refl.ent_ok 1000000 k GC (fun k => [spec_shText.e k, spec_orText.e k, spec_plText.e k, spec_mvText.e k]) (fun k => ⟨spec_shText.ok k, spec_orText.ok k, spec_plText.ok k, spec_mvText.ok k, trivial⟩) Tryz.func96 (by kernel_rfl) [] (ps := []) (by kernel_rfl) trivial (fun x => by kernel_rfl)

end Go.Proofs.YtojfncpjgpklhaaGreatDoor.PA
