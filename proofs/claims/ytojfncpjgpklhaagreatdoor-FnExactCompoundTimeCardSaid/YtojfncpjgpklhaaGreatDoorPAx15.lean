-- Written by a program of this session (wip/tools/myprint.py). Not trusted: Lean checks it.
import Derived.Test.YtojfncpjgpklhaaGreatDoorCtx
import Derived.Test.YtojfncpjgpklhaaGreatDoorPAx7
import Derived.Test.YtojfncpjgpklhaaGreatDoorPAx8
import Derived.Test.YtojfncpjgpklhaaGreatDoorPAx14
namespace Go.Proofs.YtojfncpjgpklhaaGreatDoor.PA
open Go.RowKit Go.Proofs.YtojfncpjgpklhaaGreatDoorW.PrintWords Go.Proofs.YtojfncpjgpklhaaGreatDoorW.PrintLast Go.Proofs.YtojfncpjgpklhaaGreatDoorW.PrintMore
attribute [local go_sem] max2_int min2_int max_two min_two max_three min_three max_four min_four   -- for this text's walks alone
set_option linter.unusedVariables false
set_option linter.unusedSimpArgs false

/-! ### spec_CompoundTime: function 20 -/

def spec_CompoundTime.l0 : Nat → List (S44) → Int → List (S44) → Int → Int → Option (Int × Bool)
  | 0, _, _, _, _, _ => none
  | k + 1, x0, x4, x10, x11, x12 => if x12 < x11 then (if 0 ≤ x12 then (if x12 < (x10.length : Int) then ((spec_ruSteps.f k ((rd_T44 x10 x12).f0.f0.f0) ((rd_T44 x10 x12).f0.f0.f1) ((rd_T44 x10 x12).f0.f0.f2) ((rd_T44 x10 x12).f0.f0.f3) ((rd_T44 x10 x12).f0.f0.f4) ((rd_T44 x10 x12).f0.f0.f5) ((rd_T44 x10 x12).f0.f1.f0) ((rd_T44 x10 x12).f0.f1.f1) ((rd_T44 x10 x12).f0.f2.f0) ((rd_T44 x10 x12).f0.f2.f1) ((rd_T44 x10 x12).f0.f2.f2) ((rd_T44 x10 x12).f0.f3.f0) ((rd_T44 x10 x12).f0.f3.f1) ((rd_T44 x10 x12).f1) ((rd_T44 x10 x12).f2.f0.f0) ((rd_T44 x10 x12).f2.f0.f1) ((rd_T44 x10 x12).f2.f0.f2) ((rd_T44 x10 x12).f2.f0.f3) ((rd_T44 x10 x12).f2.f0.f4) ((rd_T44 x10 x12).f2.f0.f5) ((rd_T44 x10 x12).f2.f1.f0) ((rd_T44 x10 x12).f2.f1.f1) ((rd_T44 x10 x12).f2.f2.f0) ((rd_T44 x10 x12).f2.f2.f1) ((rd_T44 x10 x12).f2.f2.f2) ((rd_T44 x10 x12).f2.f3.f0) ((rd_T44 x10 x12).f2.f3.f1)).bind fun t787 => (if x12 > 0 then (if 0 ≤ (wrap64 (x12 - 1)) then (if (wrap64 (x12 - 1)) < (x0.length : Int) then ((spec_cmGap.f ((rd_T44 x0 (wrap64 (x12 - 1))).f0.f0.f0) ((rd_T44 x0 (wrap64 (x12 - 1))).f0.f0.f1) ((rd_T44 x0 (wrap64 (x12 - 1))).f0.f0.f2) ((rd_T44 x0 (wrap64 (x12 - 1))).f0.f0.f3) ((rd_T44 x0 (wrap64 (x12 - 1))).f0.f0.f4) ((rd_T44 x0 (wrap64 (x12 - 1))).f0.f0.f5) ((rd_T44 x0 (wrap64 (x12 - 1))).f0.f1.f0) ((rd_T44 x0 (wrap64 (x12 - 1))).f0.f1.f1) ((rd_T44 x0 (wrap64 (x12 - 1))).f0.f2.f0) ((rd_T44 x0 (wrap64 (x12 - 1))).f0.f2.f1) ((rd_T44 x0 (wrap64 (x12 - 1))).f0.f2.f2) ((rd_T44 x0 (wrap64 (x12 - 1))).f0.f3.f0) ((rd_T44 x0 (wrap64 (x12 - 1))).f0.f3.f1) ((rd_T44 x0 (wrap64 (x12 - 1))).f1) ((rd_T44 x0 (wrap64 (x12 - 1))).f2.f0.f0) ((rd_T44 x0 (wrap64 (x12 - 1))).f2.f0.f1) ((rd_T44 x0 (wrap64 (x12 - 1))).f2.f0.f2) ((rd_T44 x0 (wrap64 (x12 - 1))).f2.f0.f3) ((rd_T44 x0 (wrap64 (x12 - 1))).f2.f0.f4) ((rd_T44 x0 (wrap64 (x12 - 1))).f2.f0.f5) ((rd_T44 x0 (wrap64 (x12 - 1))).f2.f1.f0) ((rd_T44 x0 (wrap64 (x12 - 1))).f2.f1.f1) ((rd_T44 x0 (wrap64 (x12 - 1))).f2.f2.f0) ((rd_T44 x0 (wrap64 (x12 - 1))).f2.f2.f1) ((rd_T44 x0 (wrap64 (x12 - 1))).f2.f2.f2) ((rd_T44 x0 (wrap64 (x12 - 1))).f2.f3.f0) ((rd_T44 x0 (wrap64 (x12 - 1))).f2.f3.f1) ((rd_T44 x10 x12).f0.f0.f0) ((rd_T44 x10 x12).f0.f0.f1) ((rd_T44 x10 x12).f0.f0.f2) ((rd_T44 x10 x12).f0.f0.f3) ((rd_T44 x10 x12).f0.f0.f4) ((rd_T44 x10 x12).f0.f0.f5) ((rd_T44 x10 x12).f0.f1.f0) ((rd_T44 x10 x12).f0.f1.f1) ((rd_T44 x10 x12).f0.f2.f0) ((rd_T44 x10 x12).f0.f2.f1) ((rd_T44 x10 x12).f0.f2.f2) ((rd_T44 x10 x12).f0.f3.f0) ((rd_T44 x10 x12).f0.f3.f1) ((rd_T44 x10 x12).f1) ((rd_T44 x10 x12).f2.f0.f0) ((rd_T44 x10 x12).f2.f0.f1) ((rd_T44 x10 x12).f2.f0.f2) ((rd_T44 x10 x12).f2.f0.f3) ((rd_T44 x10 x12).f2.f0.f4) ((rd_T44 x10 x12).f2.f0.f5) ((rd_T44 x10 x12).f2.f1.f0) ((rd_T44 x10 x12).f2.f1.f1) ((rd_T44 x10 x12).f2.f2.f0) ((rd_T44 x10 x12).f2.f2.f1) ((rd_T44 x10 x12).f2.f2.f2) ((rd_T44 x10 x12).f2.f3.f0) ((rd_T44 x10 x12).f2.f3.f1)).bind fun t789 => (spec_CompoundTime.l0 k x0 (wrap64 ((wrap64 (x4 + (wrap64 (t787 + 1)))) + t789)) x10 x11 (wrap64 (x12 + 1)))) else (none)) else (none)) else (spec_CompoundTime.l0 k x0 (wrap64 (x4 + (wrap64 (t787 + 1)))) x10 x11 (wrap64 (x12 + 1))))) else (none)) else (none)) else (some (x4, true))

def spec_CompoundTime.f (k : Nat) (l0 : List (S44)) : Option (Int × Bool) := (spec_cmGood.f k l0).bind fun t784 => (if t784 = true then (spec_CompoundTime.l0 k l0 0 l0 (l0.length : Int) 0) else (some (0, false)))

theorem spec_CompoundTime.mono_l : ∀ k, (∀ y0 y1 y2 y3 y4, LeO (spec_CompoundTime.l0 k y0 y1 y2 y3 y4) (spec_CompoundTime.l0 (k + 1) y0 y1 y2 y3 y4))
  | 0 => fun _ _ _ _ _ r h => by simp [spec_CompoundTime.l0] at h
  | k + 1 => by
    have ih0 := spec_CompoundTime.mono_l k
    · intro y0 y1 y2 y3 y4
      unfold spec_CompoundTime.l0
      repeat' first
      | (with_reducible exact ih0 _ _ _ _ _)
      | (with_reducible exact spec_cmGood.mono _ _)
      | (with_reducible exact spec_ruSteps.mono _ _ _ _ _ _ _ _ _ _ _ _ _ _ _ _ _ _ _ _ _ _ _ _ _ _ _ _)
      | (with_reducible exact LeO.refl _)
      | (with_reducible exact LeO.none _)
      | (with_reducible refine LeO.ite ?_ ?_)
      | (with_reducible refine LeO.bind ?_ (fun _ => ?_))
      | exact ih0 _ _ _ _ _
      | exact spec_cmGood.mono _ _
      | exact spec_ruSteps.mono _ _ _ _ _ _ _ _ _ _ _ _ _ _ _ _ _ _ _ _ _ _ _ _ _ _ _ _
      | exact LeO.none _
      | refine LeO.ite ?_ ?_
      | refine LeO.bind ?_ (fun _ => ?_)

theorem spec_CompoundTime.mono : ∀ a0 k, LeO (spec_CompoundTime.f k a0) (spec_CompoundTime.f (k + 1) a0) := by
  intro a0 k
  have ih0 := spec_CompoundTime.mono_l k
  unfold spec_CompoundTime.f
  repeat' first
      | (with_reducible exact ih0 _ _ _ _ _)
      | (with_reducible exact spec_cmGood.mono _ _)
      | (with_reducible exact spec_ruSteps.mono _ _ _ _ _ _ _ _ _ _ _ _ _ _ _ _ _ _ _ _ _ _ _ _ _ _ _ _)
      | (with_reducible exact LeO.refl _)
      | (with_reducible exact LeO.none _)
      | (with_reducible refine LeO.ite ?_ ?_)
      | (with_reducible refine LeO.bind ?_ (fun _ => ?_))
      | exact ih0 _ _ _ _ _
      | exact spec_cmGood.mono _ _
      | exact spec_ruSteps.mono _ _ _ _ _ _ _ _ _ _ _ _ _ _ _ _ _ _ _ _ _ _ _ _ _ _ _ _
      | exact LeO.none _
      | refine LeO.ite ?_ ?_
      | refine LeO.bind ?_ (fun _ => ?_)

def spec_CompoundTime.e (k : Nat) : Refl.Ent G := ⟨20, [(.c (.row 44 false))], .tup [(.c li), (.c .bool)], fun x => spec_CompoundTime.f k x⟩
def spec_CompoundTime.pl0 : Refl.Pn G (Refl.PT G (spec_CompoundTime.e 0).ol) := ⟨true, 0, ⟨[(0, .v (.c (.row 44 false))), (4, .v (.c li)), (10, .v (.c (.row 44 false))), (11, .v (.c li)), (12, .v (.c li)), (2, .k (Value.int IntKind.i64 0)), (3, .k (Value.bool false))], []⟩, fun k x => spec_CompoundTime.l0 k x.1 x.2.1 x.2.2.1 x.2.2.2.1 x.2.2.2.2⟩
theorem spec_CompoundTime.ok (k : Nat) : Refl.EntOK Tryz.prog (spec_CompoundTime.e k) := Refl.ent_ok 1000000 k GC (fun k => [spec_cmGood.e k, spec_ruSteps.e k, spec_cmGap.e k]) (fun k => ⟨spec_cmGood.ok k, spec_ruSteps.ok k, spec_cmGap.ok k, trivial⟩) Tryz.func20 (by kernel_rfl) [spec_CompoundTime.pl0] (ps := [spec_CompoundTime.pl0]) (by kernel_rfl) ⟨⟨fun x => by kernel_rfl, fun k x => by kernel_rfl⟩, trivial⟩ (fun x => by kernel_rfl)

/-! ### impl_areSigns: function 78 -/

def as1.f (k : Nat) (a0 : Int) (a1 : Int) (a2 : Int) (a3 : Int) (a4 : Int) (a5 : Bool) (a6 : Int) (a7 : Int) (a8 : Int) (a9 : Int) (a10 : Bool) (a11 : ByteArray) (a12 : Int) (a13 : Bool) (a14 : Int) (a15 : Int) (a16 : Int) (a17 : Int) (a18 : Int) (a19 : Bool) (a20 : Int) (a21 : Int) (a22 : Int) (a23 : Int) (a24 : Bool) (a25 : ByteArray) (a26 : Int) : Option Bool := (impl_IsSign.f k a0 a1 a2 a3 a4 a5 a6 a7 a8 a9 a10 a11 a12 a13 a14 a15 a16 a17 a18 a19 a20 a21 a22 a23 a24 a25 a26).bind fun t => some (!t)

def as2.l0 : Nat → List S44 → Int → Int → Option Int
  | 0, _, _, _ => none
  | k + 1, l, n, i => if i < n then (if 0 ≤ i then (if i < (l.length : Int) then ((as1.f k ((rd_T44 l i).f0.f0.f0) ((rd_T44 l i).f0.f0.f1) ((rd_T44 l i).f0.f0.f2) ((rd_T44 l i).f0.f0.f3) ((rd_T44 l i).f0.f0.f4) ((rd_T44 l i).f0.f0.f5) ((rd_T44 l i).f0.f1.f0) ((rd_T44 l i).f0.f1.f1) ((rd_T44 l i).f0.f2.f0) ((rd_T44 l i).f0.f2.f1) ((rd_T44 l i).f0.f2.f2) ((rd_T44 l i).f0.f3.f0) ((rd_T44 l i).f0.f3.f1) ((rd_T44 l i).f1) ((rd_T44 l i).f2.f0.f0) ((rd_T44 l i).f2.f0.f1) ((rd_T44 l i).f2.f0.f2) ((rd_T44 l i).f2.f0.f3) ((rd_T44 l i).f2.f0.f4) ((rd_T44 l i).f2.f0.f5) ((rd_T44 l i).f2.f1.f0) ((rd_T44 l i).f2.f1.f1) ((rd_T44 l i).f2.f2.f0) ((rd_T44 l i).f2.f2.f1) ((rd_T44 l i).f2.f2.f2) ((rd_T44 l i).f2.f3.f0) ((rd_T44 l i).f2.f3.f1)).bind fun t => if t = true then (some i) else (as2.l0 k l n (wrap64 (i + 1)))) else (none)) else (none)) else (some (-1))

def as2.f (k : Nat) (l : List S44) : Option Int := as2.l0 k l (l.length : Int) 0

def as3.f (k : Nat) (l : List S44) : Option Bool := (as2.f k l).bind fun t => some (decide (t ≥ 0))

def as4.f (k : Nat) (l : List S44) : Option Bool := (as3.f k l).bind fun t => some (!t)

def impl_areSigns.f (k : Nat) (l0 : List S44) (a1 : Int) : Option Bool := if (l0.length : Int) ≤ a1 then ((as4.f k l0).bind fun t => some t) else (some false)

theorem as1.mono : ∀ a0 a1 a2 a3 a4 a5 a6 a7 a8 a9 a10 a11 a12 a13 a14 a15 a16 a17 a18 a19 a20 a21 a22 a23 a24 a25 a26 k, LeO (as1.f k a0 a1 a2 a3 a4 a5 a6 a7 a8 a9 a10 a11 a12 a13 a14 a15 a16 a17 a18 a19 a20 a21 a22 a23 a24 a25 a26) (as1.f (k + 1) a0 a1 a2 a3 a4 a5 a6 a7 a8 a9 a10 a11 a12 a13 a14 a15 a16 a17 a18 a19 a20 a21 a22 a23 a24 a25 a26) := by
  intro a0 a1 a2 a3 a4 a5 a6 a7 a8 a9 a10 a11 a12 a13 a14 a15 a16 a17 a18 a19 a20 a21 a22 a23 a24 a25 a26 k
  unfold as1.f
  repeat' first
  | (with_reducible exact impl_IsSign.mono _ _ _ _ _ _ _ _ _ _ _ _ _ _ _ _ _ _ _ _ _ _ _ _ _ _ _ _)
  | exact LeO.refl _
  | exact LeO.none _
  | refine LeO.ite ?_ ?_
  | refine LeO.bind ?_ (fun _ => ?_)

theorem as2.mono_l : ∀ k l n i, LeO (as2.l0 k l n i) (as2.l0 (k + 1) l n i)
  | 0 => fun _ _ _ r h => by simp [as2.l0] at h
  | k + 1 => by
    have ih := as2.mono_l k
    intro l n i
    unfold as2.l0
    repeat' first
    | (with_reducible exact ih _ _ _)
    | (with_reducible exact as1.mono _ _ _ _ _ _ _ _ _ _ _ _ _ _ _ _ _ _ _ _ _ _ _ _ _ _ _ _)
    | exact LeO.refl _
    | exact LeO.none _
    | refine LeO.ite ?_ ?_
    | refine LeO.bind ?_ (fun _ => ?_)

theorem as2.mono : ∀ l k, LeO (as2.f k l) (as2.f (k + 1) l) := by
  intro l k
  unfold as2.f
  repeat' first
  | (with_reducible exact as2.mono_l _ _ _ _)
  | exact LeO.refl _
  | exact LeO.none _
  | refine LeO.ite ?_ ?_
  | refine LeO.bind ?_ (fun _ => ?_)

theorem as3.mono : ∀ l k, LeO (as3.f k l) (as3.f (k + 1) l) := by
  intro l k
  unfold as3.f
  repeat' first
  | (with_reducible exact as2.mono _ _)
  | exact LeO.refl _
  | exact LeO.none _
  | refine LeO.ite ?_ ?_
  | refine LeO.bind ?_ (fun _ => ?_)

theorem as4.mono : ∀ l k, LeO (as4.f k l) (as4.f (k + 1) l) := by
  intro l k
  unfold as4.f
  repeat' first
  | (with_reducible exact as3.mono _ _)
  | exact LeO.refl _
  | exact LeO.none _
  | refine LeO.ite ?_ ?_
  | refine LeO.bind ?_ (fun _ => ?_)

theorem impl_areSigns.mono : ∀ l0 a1 k, LeO (impl_areSigns.f k l0 a1) (impl_areSigns.f (k + 1) l0 a1) := by
  intro l0 a1 k
  unfold impl_areSigns.f
  repeat' first
  | (with_reducible exact as4.mono _ _)
  | exact LeO.refl _
  | exact LeO.none _
  | refine LeO.ite ?_ ?_
  | refine LeO.bind ?_ (fun _ => ?_)

def impl_areSigns.e (k : Nat) : Refl.Ent G := ⟨78, [(.c (.row 44 false)), (.c li)], .one (.c .bool), fun x => impl_areSigns.f k x.1 x.2⟩
def as1.e (k : Nat) : Refl.Ent G := ⟨169, [.agg [li, li, li, li, li, .bool, li, li, li, li, .bool, .str, li, .bool, li, li, li, li, li, .bool, li, li, li, li, .bool, .str, li], .ref [.fn 37]], .one (.c .bool), fun x => as1.f k x.1 x.2.1 x.2.2.1 x.2.2.2.1 x.2.2.2.2.1 x.2.2.2.2.2.1 x.2.2.2.2.2.2.1 x.2.2.2.2.2.2.2.1 x.2.2.2.2.2.2.2.2.1 x.2.2.2.2.2.2.2.2.2.1 x.2.2.2.2.2.2.2.2.2.2.1 x.2.2.2.2.2.2.2.2.2.2.2.1 x.2.2.2.2.2.2.2.2.2.2.2.2.1 x.2.2.2.2.2.2.2.2.2.2.2.2.2.1 x.2.2.2.2.2.2.2.2.2.2.2.2.2.2.1 x.2.2.2.2.2.2.2.2.2.2.2.2.2.2.2.1 x.2.2.2.2.2.2.2.2.2.2.2.2.2.2.2.2.1 x.2.2.2.2.2.2.2.2.2.2.2.2.2.2.2.2.2.1 x.2.2.2.2.2.2.2.2.2.2.2.2.2.2.2.2.2.2.1 x.2.2.2.2.2.2.2.2.2.2.2.2.2.2.2.2.2.2.2.1 x.2.2.2.2.2.2.2.2.2.2.2.2.2.2.2.2.2.2.2.2.1 x.2.2.2.2.2.2.2.2.2.2.2.2.2.2.2.2.2.2.2.2.2.1 x.2.2.2.2.2.2.2.2.2.2.2.2.2.2.2.2.2.2.2.2.2.2.1 x.2.2.2.2.2.2.2.2.2.2.2.2.2.2.2.2.2.2.2.2.2.2.2.1 x.2.2.2.2.2.2.2.2.2.2.2.2.2.2.2.2.2.2.2.2.2.2.2.2.1 x.2.2.2.2.2.2.2.2.2.2.2.2.2.2.2.2.2.2.2.2.2.2.2.2.2.1 x.2.2.2.2.2.2.2.2.2.2.2.2.2.2.2.2.2.2.2.2.2.2.2.2.2.2.1⟩
theorem as1.ok (k : Nat) : Refl.EntOK Tryz.prog (as1.e k) := Refl.ent_ok 1000000 k GC (fun k => [impl_IsSign.e k]) (fun k => ⟨impl_IsSign.ok k, trivial⟩) Tryz.func169 (by kernel_rfl) [] (ps := []) (by kernel_rfl) trivial (fun x => by kernel_rfl)
def as2.e (k : Nat) : Refl.Ent G := ⟨188, [.c (.row 44 false), .clo 169 [[.fn 37]]], .one (.c li), fun x => as2.f k x.1⟩
def as2.p : Refl.Pn G (Refl.PT G (as2.e 0).ol) := ⟨true, 0, ⟨[(0, .v (.c (.row 44 false))), (1, .v (.clo 169 [[.fn 37]])), (7, .v (.c li)), (8, .v (.c li)), (4, .k (.int .i64 0))], []⟩, fun k x => as2.l0 k x.1 x.2.2.1 x.2.2.2⟩
theorem as2.ok (k : Nat) : Refl.EntOK Tryz.prog (as2.e k) := Refl.ent_ok 1000000 k GC (fun k => [as1.e k]) (fun k => ⟨as1.ok k, trivial⟩) Tryz.func188 (by kernel_rfl) [as2.p] (ps := [as2.p]) (by kernel_rfl) ⟨⟨fun x => by kernel_rfl, fun k x => by kernel_rfl⟩, trivial⟩ (fun x => by kernel_rfl)
def as3.e (k : Nat) : Refl.Ent G := ⟨168, [.c (.row 44 false), .clo 169 [[.fn 37]]], .one (.c .bool), fun x => as3.f k x.1⟩
theorem as3.ok (k : Nat) : Refl.EntOK Tryz.prog (as3.e k) := Refl.ent_ok 1000000 k GC (fun k => [as2.e k]) (fun k => ⟨as2.ok k, trivial⟩) Tryz.func168 (by kernel_rfl) [] (ps := []) (by kernel_rfl) trivial (fun x => by kernel_rfl)
def as4.e (k : Nat) : Refl.Ent G := ⟨123, [.c (.row 44 false), .clo 37 []], .one (.c .bool), fun x => as4.f k x⟩
theorem as4.ok (k : Nat) : Refl.EntOK Tryz.prog (as4.e k) := Refl.ent_ok 1000000 k GC (fun k => [as3.e k]) (fun k => ⟨as3.ok k, trivial⟩) Tryz.func123 (by kernel_rfl) [] (ps := []) (by kernel_rfl) trivial (fun x => by kernel_rfl)
theorem impl_areSigns.ok (k : Nat) : Refl.EntOK Tryz.prog (impl_areSigns.e k) := Refl.ent_ok 1000000 k GC (fun k => [as4.e k]) (fun k => ⟨as4.ok k, trivial⟩) Tryz.func78 (by kernel_rfl) [] (ps := []) (by kernel_rfl) trivial (fun x => by kernel_rfl)

/-! ### impl_isMade: function 42 -/

def impl_isMade.f (k : Nat) (l0 : List (S44)) : Option (Bool) := if (l0.length : Int) ≥ 2 then ((impl_areSigns.f k l0 4).bind fun t790 => (some t790)) else (some false)

theorem impl_isMade.mono : ∀ a0 k, LeO (impl_isMade.f k a0) (impl_isMade.f (k + 1) a0) := by
  intro a0 k
  unfold impl_isMade.f
  repeat' first
      | (with_reducible exact impl_areSigns.mono _ _ _)
      | (with_reducible exact LeO.refl _)
      | (with_reducible exact LeO.none _)
      | (with_reducible refine LeO.ite ?_ ?_)
      | (with_reducible refine LeO.bind ?_ (fun _ => ?_))
      | exact impl_areSigns.mono _ _ _
      | exact LeO.none _
      | refine LeO.ite ?_ ?_
      | refine LeO.bind ?_ (fun _ => ?_)

def impl_isMade.e (k : Nat) : Refl.Ent G := ⟨42, [(.c (.row 44 false))], .one (.c .bool), fun x => impl_isMade.f k x⟩
theorem impl_isMade.ok (k : Nat) : Refl.EntOK Tryz.prog (impl_isMade.e k) := Refl.ent_ok 1000000 k GC (fun k => [impl_areSigns.e k]) (fun k => ⟨impl_areSigns.ok k, trivial⟩) Tryz.func42 (by kernel_rfl) [] (ps := []) (by kernel_rfl) trivial (fun x => by kernel_rfl)

/-! ### impl_distance: function 170 -/

def impl_distance.f (a0 : Int) (a1 : Int) : Option (Int) := some (mx (wrap64 (a0 - a1)) (wrap64 (a1 - a0)))

def impl_distance.e (k : Nat) : Refl.Ent G := ⟨170, [(.c li), (.c li)], .one (.c li), fun x => impl_distance.f x.1 x.2⟩
theorem impl_distance.ok (k : Nat) : Refl.EntOK Tryz.prog (impl_distance.e k) := Refl.ent_ok 1000000 k GC (fun k => []) (fun k => trivial) Tryz.func170 (by kernel_rfl) [] (ps := []) (by kernel_rfl) trivial (fun x => by kernel_rfl)

/-! ### impl_Place_distance: function 132 -/

def impl_Place_distance.f (a0_0 : Int) (a0_1 : Int) (a0_2 : Bool) (a1_0 : Int) (a1_1 : Int) (a1_2 : Bool) : Option (Int) := (impl_distance.f a0_1 a1_1).bind fun t793 => (if ((a0_2 == a1_2) = true) then (if (((a0_0 == 0) == (a1_0 == 0)) = true) then ((impl_distance.f a0_0 a1_0).bind fun t794 => (some (wrap64 (t793 + t794)))) else (some (wrap64 (t793 + 4)))) else (if (((a0_0 == 0) == (a1_0 == 0)) = true) then ((impl_distance.f a0_0 a1_0).bind fun t795 => (some (wrap64 ((wrap64 (t793 + 1)) + t795)))) else (some (wrap64 ((wrap64 (t793 + 1)) + 4)))))

def impl_Place_distance.e (k : Nat) : Refl.Ent G := ⟨132, [(.agg [li, li, .bool]), (.agg [li, li, .bool])], .one (.c li), fun x => impl_Place_distance.f x.1 x.2.1 x.2.2.1 x.2.2.2.1 x.2.2.2.2.1 x.2.2.2.2.2⟩
theorem impl_Place_distance.ok (k : Nat) : Refl.EntOK Tryz.prog (impl_Place_distance.e k) := Refl.ent_ok 1000000 k GC (fun k => [impl_distance.e k]) (fun k => ⟨impl_distance.ok k, trivial⟩) Tryz.func132 (by kernel_rfl) [] (ps := []) (by kernel_rfl) trivial (fun x => by kernel_rfl)

/-! ### impl_gap: function 87 -/

def impl_gap.f (a0_0 : Int) (a0_1 : Int) (a0_2 : Int) (a0_3 : Int) (a0_4 : Int) (a0_5 : Bool) (a0_6 : Int) (a0_7 : Int) (a0_8 : Int) (a0_9 : Int) (a0_10 : Bool) (a0_11 : ByteArray) (a0_12 : Int) (a0_13 : Bool) (a0_14 : Int) (a0_15 : Int) (a0_16 : Int) (a0_17 : Int) (a0_18 : Int) (a0_19 : Bool) (a0_20 : Int) (a0_21 : Int) (a0_22 : Int) (a0_23 : Int) (a0_24 : Bool) (a0_25 : ByteArray) (a0_26 : Int) (a1_0 : Int) (a1_1 : Int) (a1_2 : Int) (a1_3 : Int) (a1_4 : Int) (a1_5 : Bool) (a1_6 : Int) (a1_7 : Int) (a1_8 : Int) (a1_9 : Int) (a1_10 : Bool) (a1_11 : ByteArray) (a1_12 : Int) (a1_13 : Bool) (a1_14 : Int) (a1_15 : Int) (a1_16 : Int) (a1_17 : Int) (a1_18 : Int) (a1_19 : Bool) (a1_20 : Int) (a1_21 : Int) (a1_22 : Int) (a1_23 : Int) (a1_24 : Bool) (a1_25 : ByteArray) (a1_26 : Int) : Option (Int) := (impl_Place_distance.f a0_8 a0_9 a0_10 a1_8 a1_9 a1_10).bind fun t798 => (if ((a0_13 == a1_13) = true) then (some t798) else (some (wrap64 (t798 + 1))))

def impl_gap.e (k : Nat) : Refl.Ent G := ⟨87, [(.agg gL1), (.agg gL1)], .one (.c li), fun x => impl_gap.f x.1 x.2.1 x.2.2.1 x.2.2.2.1 x.2.2.2.2.1 x.2.2.2.2.2.1 x.2.2.2.2.2.2.1 x.2.2.2.2.2.2.2.1 x.2.2.2.2.2.2.2.2.1 x.2.2.2.2.2.2.2.2.2.1 x.2.2.2.2.2.2.2.2.2.2.1 x.2.2.2.2.2.2.2.2.2.2.2.1 x.2.2.2.2.2.2.2.2.2.2.2.2.1 x.2.2.2.2.2.2.2.2.2.2.2.2.2.1 x.2.2.2.2.2.2.2.2.2.2.2.2.2.2.1 x.2.2.2.2.2.2.2.2.2.2.2.2.2.2.2.1 x.2.2.2.2.2.2.2.2.2.2.2.2.2.2.2.2.1 x.2.2.2.2.2.2.2.2.2.2.2.2.2.2.2.2.2.1 x.2.2.2.2.2.2.2.2.2.2.2.2.2.2.2.2.2.2.1 x.2.2.2.2.2.2.2.2.2.2.2.2.2.2.2.2.2.2.2.1 x.2.2.2.2.2.2.2.2.2.2.2.2.2.2.2.2.2.2.2.2.1 x.2.2.2.2.2.2.2.2.2.2.2.2.2.2.2.2.2.2.2.2.2.1 x.2.2.2.2.2.2.2.2.2.2.2.2.2.2.2.2.2.2.2.2.2.2.1 x.2.2.2.2.2.2.2.2.2.2.2.2.2.2.2.2.2.2.2.2.2.2.2.1 x.2.2.2.2.2.2.2.2.2.2.2.2.2.2.2.2.2.2.2.2.2.2.2.2.1 x.2.2.2.2.2.2.2.2.2.2.2.2.2.2.2.2.2.2.2.2.2.2.2.2.2.1 x.2.2.2.2.2.2.2.2.2.2.2.2.2.2.2.2.2.2.2.2.2.2.2.2.2.2.1 x.2.2.2.2.2.2.2.2.2.2.2.2.2.2.2.2.2.2.2.2.2.2.2.2.2.2.2.1 x.2.2.2.2.2.2.2.2.2.2.2.2.2.2.2.2.2.2.2.2.2.2.2.2.2.2.2.2.1 x.2.2.2.2.2.2.2.2.2.2.2.2.2.2.2.2.2.2.2.2.2.2.2.2.2.2.2.2.2.1 x.2.2.2.2.2.2.2.2.2.2.2.2.2.2.2.2.2.2.2.2.2.2.2.2.2.2.2.2.2.2.1 x.2.2.2.2.2.2.2.2.2.2.2.2.2.2.2.2.2.2.2.2.2.2.2.2.2.2.2.2.2.2.2.1 x.2.2.2.2.2.2.2.2.2.2.2.2.2.2.2.2.2.2.2.2.2.2.2.2.2.2.2.2.2.2.2.2.1 x.2.2.2.2.2.2.2.2.2.2.2.2.2.2.2.2.2.2.2.2.2.2.2.2.2.2.2.2.2.2.2.2.2.1 x.2.2.2.2.2.2.2.2.2.2.2.2.2.2.2.2.2.2.2.2.2.2.2.2.2.2.2.2.2.2.2.2.2.2.1 x.2.2.2.2.2.2.2.2.2.2.2.2.2.2.2.2.2.2.2.2.2.2.2.2.2.2.2.2.2.2.2.2.2.2.2.1 x.2.2.2.2.2.2.2.2.2.2.2.2.2.2.2.2.2.2.2.2.2.2.2.2.2.2.2.2.2.2.2.2.2.2.2.2.1 x.2.2.2.2.2.2.2.2.2.2.2.2.2.2.2.2.2.2.2.2.2.2.2.2.2.2.2.2.2.2.2.2.2.2.2.2.2.1 x.2.2.2.2.2.2.2.2.2.2.2.2.2.2.2.2.2.2.2.2.2.2.2.2.2.2.2.2.2.2.2.2.2.2.2.2.2.2.1 x.2.2.2.2.2.2.2.2.2.2.2.2.2.2.2.2.2.2.2.2.2.2.2.2.2.2.2.2.2.2.2.2.2.2.2.2.2.2.2.1 x.2.2.2.2.2.2.2.2.2.2.2.2.2.2.2.2.2.2.2.2.2.2.2.2.2.2.2.2.2.2.2.2.2.2.2.2.2.2.2.2.1 x.2.2.2.2.2.2.2.2.2.2.2.2.2.2.2.2.2.2.2.2.2.2.2.2.2.2.2.2.2.2.2.2.2.2.2.2.2.2.2.2.2.1 x.2.2.2.2.2.2.2.2.2.2.2.2.2.2.2.2.2.2.2.2.2.2.2.2.2.2.2.2.2.2.2.2.2.2.2.2.2.2.2.2.2.2.1 x.2.2.2.2.2.2.2.2.2.2.2.2.2.2.2.2.2.2.2.2.2.2.2.2.2.2.2.2.2.2.2.2.2.2.2.2.2.2.2.2.2.2.2.1 x.2.2.2.2.2.2.2.2.2.2.2.2.2.2.2.2.2.2.2.2.2.2.2.2.2.2.2.2.2.2.2.2.2.2.2.2.2.2.2.2.2.2.2.2.1 x.2.2.2.2.2.2.2.2.2.2.2.2.2.2.2.2.2.2.2.2.2.2.2.2.2.2.2.2.2.2.2.2.2.2.2.2.2.2.2.2.2.2.2.2.2.1 x.2.2.2.2.2.2.2.2.2.2.2.2.2.2.2.2.2.2.2.2.2.2.2.2.2.2.2.2.2.2.2.2.2.2.2.2.2.2.2.2.2.2.2.2.2.2.1 x.2.2.2.2.2.2.2.2.2.2.2.2.2.2.2.2.2.2.2.2.2.2.2.2.2.2.2.2.2.2.2.2.2.2.2.2.2.2.2.2.2.2.2.2.2.2.2.1 x.2.2.2.2.2.2.2.2.2.2.2.2.2.2.2.2.2.2.2.2.2.2.2.2.2.2.2.2.2.2.2.2.2.2.2.2.2.2.2.2.2.2.2.2.2.2.2.2.1 x.2.2.2.2.2.2.2.2.2.2.2.2.2.2.2.2.2.2.2.2.2.2.2.2.2.2.2.2.2.2.2.2.2.2.2.2.2.2.2.2.2.2.2.2.2.2.2.2.2.1 x.2.2.2.2.2.2.2.2.2.2.2.2.2.2.2.2.2.2.2.2.2.2.2.2.2.2.2.2.2.2.2.2.2.2.2.2.2.2.2.2.2.2.2.2.2.2.2.2.2.2.1 x.2.2.2.2.2.2.2.2.2.2.2.2.2.2.2.2.2.2.2.2.2.2.2.2.2.2.2.2.2.2.2.2.2.2.2.2.2.2.2.2.2.2.2.2.2.2.2.2.2.2.2.1 x.2.2.2.2.2.2.2.2.2.2.2.2.2.2.2.2.2.2.2.2.2.2.2.2.2.2.2.2.2.2.2.2.2.2.2.2.2.2.2.2.2.2.2.2.2.2.2.2.2.2.2.2.1 x.2.2.2.2.2.2.2.2.2.2.2.2.2.2.2.2.2.2.2.2.2.2.2.2.2.2.2.2.2.2.2.2.2.2.2.2.2.2.2.2.2.2.2.2.2.2.2.2.2.2.2.2.2⟩
theorem impl_gap.ok (k : Nat) : Refl.EntOK Tryz.prog (impl_gap.e k) := Refl.ent_ok 1000000 k GC (fun k => [impl_Place_distance.e k]) (fun k => ⟨impl_Place_distance.ok k, trivial⟩) Tryz.func87 (by kernel_rfl) [] (ps := []) (by kernel_rfl) trivial (fun x => by kernel_rfl)

/-! ### impl_gapsIn: function 50 -/

def impl_gapsIn.l0 : Nat → List (S44) → Int → Int → Option (Int)
  | 0, _, _, _ => none
  | k + 1, x0, x3, x4 => if x4 < (x0.length : Int) then (if 0 ≤ (wrap64 (x4 - 1)) then (if (wrap64 (x4 - 1)) < (x0.length : Int) then (if 0 ≤ x4 then (if x4 < (x0.length : Int) then ((impl_gap.f ((rd_T44 x0 (wrap64 (x4 - 1))).f0.f0.f0) ((rd_T44 x0 (wrap64 (x4 - 1))).f0.f0.f1) ((rd_T44 x0 (wrap64 (x4 - 1))).f0.f0.f2) ((rd_T44 x0 (wrap64 (x4 - 1))).f0.f0.f3) ((rd_T44 x0 (wrap64 (x4 - 1))).f0.f0.f4) ((rd_T44 x0 (wrap64 (x4 - 1))).f0.f0.f5) ((rd_T44 x0 (wrap64 (x4 - 1))).f0.f1.f0) ((rd_T44 x0 (wrap64 (x4 - 1))).f0.f1.f1) ((rd_T44 x0 (wrap64 (x4 - 1))).f0.f2.f0) ((rd_T44 x0 (wrap64 (x4 - 1))).f0.f2.f1) ((rd_T44 x0 (wrap64 (x4 - 1))).f0.f2.f2) ((rd_T44 x0 (wrap64 (x4 - 1))).f0.f3.f0) ((rd_T44 x0 (wrap64 (x4 - 1))).f0.f3.f1) ((rd_T44 x0 (wrap64 (x4 - 1))).f1) ((rd_T44 x0 (wrap64 (x4 - 1))).f2.f0.f0) ((rd_T44 x0 (wrap64 (x4 - 1))).f2.f0.f1) ((rd_T44 x0 (wrap64 (x4 - 1))).f2.f0.f2) ((rd_T44 x0 (wrap64 (x4 - 1))).f2.f0.f3) ((rd_T44 x0 (wrap64 (x4 - 1))).f2.f0.f4) ((rd_T44 x0 (wrap64 (x4 - 1))).f2.f0.f5) ((rd_T44 x0 (wrap64 (x4 - 1))).f2.f1.f0) ((rd_T44 x0 (wrap64 (x4 - 1))).f2.f1.f1) ((rd_T44 x0 (wrap64 (x4 - 1))).f2.f2.f0) ((rd_T44 x0 (wrap64 (x4 - 1))).f2.f2.f1) ((rd_T44 x0 (wrap64 (x4 - 1))).f2.f2.f2) ((rd_T44 x0 (wrap64 (x4 - 1))).f2.f3.f0) ((rd_T44 x0 (wrap64 (x4 - 1))).f2.f3.f1) ((rd_T44 x0 x4).f0.f0.f0) ((rd_T44 x0 x4).f0.f0.f1) ((rd_T44 x0 x4).f0.f0.f2) ((rd_T44 x0 x4).f0.f0.f3) ((rd_T44 x0 x4).f0.f0.f4) ((rd_T44 x0 x4).f0.f0.f5) ((rd_T44 x0 x4).f0.f1.f0) ((rd_T44 x0 x4).f0.f1.f1) ((rd_T44 x0 x4).f0.f2.f0) ((rd_T44 x0 x4).f0.f2.f1) ((rd_T44 x0 x4).f0.f2.f2) ((rd_T44 x0 x4).f0.f3.f0) ((rd_T44 x0 x4).f0.f3.f1) ((rd_T44 x0 x4).f1) ((rd_T44 x0 x4).f2.f0.f0) ((rd_T44 x0 x4).f2.f0.f1) ((rd_T44 x0 x4).f2.f0.f2) ((rd_T44 x0 x4).f2.f0.f3) ((rd_T44 x0 x4).f2.f0.f4) ((rd_T44 x0 x4).f2.f0.f5) ((rd_T44 x0 x4).f2.f1.f0) ((rd_T44 x0 x4).f2.f1.f1) ((rd_T44 x0 x4).f2.f2.f0) ((rd_T44 x0 x4).f2.f2.f1) ((rd_T44 x0 x4).f2.f2.f2) ((rd_T44 x0 x4).f2.f3.f0) ((rd_T44 x0 x4).f2.f3.f1)).bind fun t801 => (impl_gapsIn.l0 k x0 (wrap64 (x3 + t801)) (wrap64 (x4 + 1)))) else (none)) else (none)) else (none)) else (none)) else (some x3)

def impl_gapsIn.f (k : Nat) (l0 : List (S44)) : Option (Int) := impl_gapsIn.l0 k l0 0 1

theorem impl_gapsIn.mono_l : ∀ k, (∀ y0 y1 y2, LeO (impl_gapsIn.l0 k y0 y1 y2) (impl_gapsIn.l0 (k + 1) y0 y1 y2))
  | 0 => fun _ _ _ r h => by simp [impl_gapsIn.l0] at h
  | k + 1 => by
    have ih0 := impl_gapsIn.mono_l k
    · intro y0 y1 y2
      unfold impl_gapsIn.l0
      repeat' first
      | (with_reducible exact ih0 _ _ _)
      | (with_reducible exact LeO.refl _)
      | (with_reducible exact LeO.none _)
      | (with_reducible refine LeO.ite ?_ ?_)
      | (with_reducible refine LeO.bind ?_ (fun _ => ?_))
      | exact ih0 _ _ _
      | exact LeO.none _
      | refine LeO.ite ?_ ?_
      | refine LeO.bind ?_ (fun _ => ?_)

theorem impl_gapsIn.mono : ∀ a0 k, LeO (impl_gapsIn.f k a0) (impl_gapsIn.f (k + 1) a0) := by
  intro a0 k
  have ih0 := impl_gapsIn.mono_l k
  unfold impl_gapsIn.f
  repeat' first
      | (with_reducible exact ih0 _ _ _)
      | (with_reducible exact LeO.refl _)
      | (with_reducible exact LeO.none _)
      | (with_reducible refine LeO.ite ?_ ?_)
      | (with_reducible refine LeO.bind ?_ (fun _ => ?_))
      | exact ih0 _ _ _
      | exact LeO.none _
      | refine LeO.ite ?_ ?_
      | refine LeO.bind ?_ (fun _ => ?_)

def impl_gapsIn.e (k : Nat) : Refl.Ent G := ⟨50, [(.c (.row 44 false))], .one (.c li), fun x => impl_gapsIn.f k x⟩
def impl_gapsIn.pl0 : Refl.Pn G (Refl.PT G (impl_gapsIn.e 0).ol) := ⟨true, 0, ⟨[(0, .v (.c (.row 44 false))), (3, .v (.c li)), (4, .v (.c li)), (2, .k (Value.int IntKind.i64 0))], []⟩, fun k x => impl_gapsIn.l0 k x.1 x.2.1 x.2.2⟩
theorem impl_gapsIn.ok (k : Nat) : Refl.EntOK Tryz.prog (impl_gapsIn.e k) := Refl.ent_ok 1000000 k GC (fun k => [impl_gap.e k]) (fun k => ⟨impl_gap.ok k, trivial⟩) Tryz.func50 (by kernel_rfl) [impl_gapsIn.pl0] (ps := [impl_gapsIn.pl0]) (by kernel_rfl) ⟨⟨fun x => by kernel_rfl, fun k x => by kernel_rfl⟩, trivial⟩ (fun x => by kernel_rfl)

/-! ### impl_Sign_steps: function 51 -/

def impl_Sign_steps.f (a0_0 : Int) (a0_1 : Int) (a0_2 : Int) (a0_3 : Int) (a0_4 : Int) (a0_5 : Bool) (a0_6 : Int) (a0_7 : Int) (a0_8 : Int) (a0_9 : Int) (a0_10 : Bool) (a0_11 : ByteArray) (a0_12 : Int) (a0_13 : Bool) (a0_14 : Int) (a0_15 : Int) (a0_16 : Int) (a0_17 : Int) (a0_18 : Int) (a0_19 : Bool) (a0_20 : Int) (a0_21 : Int) (a0_22 : Int) (a0_23 : Int) (a0_24 : Bool) (a0_25 : ByteArray) (a0_26 : Int) : Option (Int) := (impl_Move_all.f a0_11 a0_12).bind fun t803 => ((impl_Move_all.f a0_25 a0_26).bind fun t804 => (some (mx (t803.size : Int) (t804.size : Int))))

def impl_Sign_steps.e (k : Nat) : Refl.Ent G := ⟨51, [(.agg gL1)], .one (.c li), fun x => impl_Sign_steps.f x.1 x.2.1 x.2.2.1 x.2.2.2.1 x.2.2.2.2.1 x.2.2.2.2.2.1 x.2.2.2.2.2.2.1 x.2.2.2.2.2.2.2.1 x.2.2.2.2.2.2.2.2.1 x.2.2.2.2.2.2.2.2.2.1 x.2.2.2.2.2.2.2.2.2.2.1 x.2.2.2.2.2.2.2.2.2.2.2.1 x.2.2.2.2.2.2.2.2.2.2.2.2.1 x.2.2.2.2.2.2.2.2.2.2.2.2.2.1 x.2.2.2.2.2.2.2.2.2.2.2.2.2.2.1 x.2.2.2.2.2.2.2.2.2.2.2.2.2.2.2.1 x.2.2.2.2.2.2.2.2.2.2.2.2.2.2.2.2.1 x.2.2.2.2.2.2.2.2.2.2.2.2.2.2.2.2.2.1 x.2.2.2.2.2.2.2.2.2.2.2.2.2.2.2.2.2.2.1 x.2.2.2.2.2.2.2.2.2.2.2.2.2.2.2.2.2.2.2.1 x.2.2.2.2.2.2.2.2.2.2.2.2.2.2.2.2.2.2.2.2.1 x.2.2.2.2.2.2.2.2.2.2.2.2.2.2.2.2.2.2.2.2.2.1 x.2.2.2.2.2.2.2.2.2.2.2.2.2.2.2.2.2.2.2.2.2.2.1 x.2.2.2.2.2.2.2.2.2.2.2.2.2.2.2.2.2.2.2.2.2.2.2.1 x.2.2.2.2.2.2.2.2.2.2.2.2.2.2.2.2.2.2.2.2.2.2.2.2.1 x.2.2.2.2.2.2.2.2.2.2.2.2.2.2.2.2.2.2.2.2.2.2.2.2.2.1 x.2.2.2.2.2.2.2.2.2.2.2.2.2.2.2.2.2.2.2.2.2.2.2.2.2.2⟩
theorem impl_Sign_steps.ok (k : Nat) : Refl.EntOK Tryz.prog (impl_Sign_steps.e k) := Refl.ent_ok 1000000 k GC (fun k => [impl_Move_all.e k]) (fun k => ⟨impl_Move_all.ok k, trivial⟩) Tryz.func51 (by kernel_rfl) [] (ps := []) (by kernel_rfl) trivial (fun x => by kernel_rfl)

/-! ### impl_CompoundTime: function 21 -/

def impl_CompoundTime.l0 : Nat → Int → List (S44) → Int → Int → Option (Int × Bool)
  | 0, _, _, _, _ => none
  | k + 1, x4, x12, x13, x14 => if x14 < x13 then (if 0 ≤ x14 then (if x14 < (x12.length : Int) then ((impl_Sign_steps.f ((rd_T44 x12 x14).f0.f0.f0) ((rd_T44 x12 x14).f0.f0.f1) ((rd_T44 x12 x14).f0.f0.f2) ((rd_T44 x12 x14).f0.f0.f3) ((rd_T44 x12 x14).f0.f0.f4) ((rd_T44 x12 x14).f0.f0.f5) ((rd_T44 x12 x14).f0.f1.f0) ((rd_T44 x12 x14).f0.f1.f1) ((rd_T44 x12 x14).f0.f2.f0) ((rd_T44 x12 x14).f0.f2.f1) ((rd_T44 x12 x14).f0.f2.f2) ((rd_T44 x12 x14).f0.f3.f0) ((rd_T44 x12 x14).f0.f3.f1) ((rd_T44 x12 x14).f1) ((rd_T44 x12 x14).f2.f0.f0) ((rd_T44 x12 x14).f2.f0.f1) ((rd_T44 x12 x14).f2.f0.f2) ((rd_T44 x12 x14).f2.f0.f3) ((rd_T44 x12 x14).f2.f0.f4) ((rd_T44 x12 x14).f2.f0.f5) ((rd_T44 x12 x14).f2.f1.f0) ((rd_T44 x12 x14).f2.f1.f1) ((rd_T44 x12 x14).f2.f2.f0) ((rd_T44 x12 x14).f2.f2.f1) ((rd_T44 x12 x14).f2.f2.f2) ((rd_T44 x12 x14).f2.f3.f0) ((rd_T44 x12 x14).f2.f3.f1)).bind fun t809 => (impl_CompoundTime.l0 k (wrap64 (x4 + (wrap64 (t809 + 1)))) x12 x13 (wrap64 (x14 + 1)))) else (none)) else (none)) else (some (x4, true))

def impl_CompoundTime.f (k : Nat) (l0 : List (S44)) : Option (Int × Bool) := (impl_isMade.f k l0).bind fun t805 => (if t805 = true then ((impl_gapsIn.f k l0).bind fun t806 => (impl_CompoundTime.l0 k t806 l0 (l0.length : Int) 0)) else (some (0, false)))

theorem impl_CompoundTime.mono_l : ∀ k, (∀ y0 y1 y2 y3, LeO (impl_CompoundTime.l0 k y0 y1 y2 y3) (impl_CompoundTime.l0 (k + 1) y0 y1 y2 y3))
  | 0 => fun _ _ _ _ r h => by simp [impl_CompoundTime.l0] at h
  | k + 1 => by
    have ih0 := impl_CompoundTime.mono_l k
    · intro y0 y1 y2 y3
      unfold impl_CompoundTime.l0
      repeat' first
      | (with_reducible exact ih0 _ _ _ _)
      | (with_reducible exact impl_gapsIn.mono _ _)
      | (with_reducible exact impl_isMade.mono _ _)
      | (with_reducible exact LeO.refl _)
      | (with_reducible exact LeO.none _)
      | (with_reducible refine LeO.ite ?_ ?_)
      | (with_reducible refine LeO.bind ?_ (fun _ => ?_))
      | exact ih0 _ _ _ _
      | exact impl_gapsIn.mono _ _
      | exact impl_isMade.mono _ _
      | exact LeO.none _
      | refine LeO.ite ?_ ?_
      | refine LeO.bind ?_ (fun _ => ?_)

theorem impl_CompoundTime.mono : ∀ a0 k, LeO (impl_CompoundTime.f k a0) (impl_CompoundTime.f (k + 1) a0) := by
  intro a0 k
  have ih0 := impl_CompoundTime.mono_l k
  unfold impl_CompoundTime.f
  repeat' first
      | (with_reducible exact ih0 _ _ _ _)
      | (with_reducible exact impl_gapsIn.mono _ _)
      | (with_reducible exact impl_isMade.mono _ _)
      | (with_reducible exact LeO.refl _)
      | (with_reducible exact LeO.none _)
      | (with_reducible refine LeO.ite ?_ ?_)
      | (with_reducible refine LeO.bind ?_ (fun _ => ?_))
      | exact ih0 _ _ _ _
      | exact impl_gapsIn.mono _ _
      | exact impl_isMade.mono _ _
      | exact LeO.none _
      | refine LeO.ite ?_ ?_
      | refine LeO.bind ?_ (fun _ => ?_)

def impl_CompoundTime.e (k : Nat) : Refl.Ent G := ⟨21, [(.c (.row 44 false))], .tup [(.c li), (.c .bool)], fun x => impl_CompoundTime.f k x⟩
def impl_CompoundTime.pl0 : Refl.Pn G (Refl.PT G (impl_CompoundTime.e 0).ol) := ⟨true, 0, ⟨[(4, .v (.c li)), (12, .v (.c (.row 44 false))), (13, .v (.c li)), (14, .v (.c li)), (2, .k (Value.int IntKind.i64 0)), (3, .k (Value.bool false))], []⟩, fun k x => impl_CompoundTime.l0 k x.1 x.2.1 x.2.2.1 x.2.2.2⟩
theorem impl_CompoundTime.ok (k : Nat) : Refl.EntOK Tryz.prog (impl_CompoundTime.e k) := Refl.ent_ok 1000000 k GC (fun k => [impl_isMade.e k, impl_gapsIn.e k, impl_Sign_steps.e k]) (fun k => ⟨impl_isMade.ok k, impl_gapsIn.ok k, impl_Sign_steps.ok k, trivial⟩) Tryz.func21 (by kernel_rfl) [impl_CompoundTime.pl0] (ps := [impl_CompoundTime.pl0]) (by kernel_rfl) ⟨⟨fun x => by kernel_rfl, fun k x => by kernel_rfl⟩, trivial⟩ (fun x => by kernel_rfl)

/-! ### laws_FnExactCompoundTime: function 6 -/

def laws_FnExactCompoundTime.j0 : Nat → List (S33) → List (S44) → Bool → Option (Bool)
  | 0, _, _, _ => none
  | k + 1, x0, x6, x34 => if x34 = true then (some false) else ((laws_toSignS.f k x0).bind fun t821 => ((laws_eqSignS.f k x6 t821).bind fun t824 => (if t824 = true then (some true) else (some false))))

def laws_FnExactCompoundTime.f (k : Nat) (l0 : List (S33)) : Option (Bool) := (laws_szSignS.f k l0 1048576).bind fun t810 => (if t810 < 0 then (some true) else ((laws_toSignS.f k l0).bind fun t811 => ((spec_CompoundTime.f k t811).bind fun bt814 => ((laws_toSignS.f k l0).bind fun t816 => ((impl_CompoundTime.f k t816).bind fun bt819 => (if bt819.1 = bt814.1 then (laws_FnExactCompoundTime.j0 k l0 t816 (!(bt819.2 == bt814.2))) else (laws_FnExactCompoundTime.j0 k l0 t816 true)))))))

theorem laws_FnExactCompoundTime.mono_l : ∀ k, (∀ y0 y1 y2, LeO (laws_FnExactCompoundTime.j0 k y0 y1 y2) (laws_FnExactCompoundTime.j0 (k + 1) y0 y1 y2))
  | 0 => fun _ _ _ r h => by simp [laws_FnExactCompoundTime.j0] at h
  | k + 1 => by
    have ih0 := laws_FnExactCompoundTime.mono_l k
    · intro y0 y1 y2
      unfold laws_FnExactCompoundTime.j0
      repeat' first
      | (with_reducible exact ih0 _ _ _)
      | (with_reducible exact impl_CompoundTime.mono _ _)
      | (with_reducible exact laws_eqSignS.mono _ _ _)
      | (with_reducible exact laws_szSignS.mono _ _ _)
      | (with_reducible exact laws_toSignS.mono _ _)
      | (with_reducible exact spec_CompoundTime.mono _ _)
      | (with_reducible exact LeO.refl _)
      | (with_reducible exact LeO.none _)
      | (with_reducible refine LeO.ite ?_ ?_)
      | (with_reducible refine LeO.bind ?_ (fun _ => ?_))
      | exact ih0 _ _ _
      | exact impl_CompoundTime.mono _ _
      | exact laws_eqSignS.mono _ _ _
      | exact laws_szSignS.mono _ _ _
      | exact laws_toSignS.mono _ _
      | exact spec_CompoundTime.mono _ _
      | exact LeO.none _
      | refine LeO.ite ?_ ?_
      | refine LeO.bind ?_ (fun _ => ?_)

theorem laws_FnExactCompoundTime.mono : ∀ a0 k, LeO (laws_FnExactCompoundTime.f k a0) (laws_FnExactCompoundTime.f (k + 1) a0) := by
  intro a0 k
  have ih0 := laws_FnExactCompoundTime.mono_l k
  unfold laws_FnExactCompoundTime.f
  repeat' first
      | (with_reducible exact ih0 _ _ _)
      | (with_reducible exact impl_CompoundTime.mono _ _)
      | (with_reducible exact laws_eqSignS.mono _ _ _)
      | (with_reducible exact laws_szSignS.mono _ _ _)
      | (with_reducible exact laws_toSignS.mono _ _)
      | (with_reducible exact spec_CompoundTime.mono _ _)
      | (with_reducible exact LeO.refl _)
      | (with_reducible exact LeO.none _)
      | (with_reducible refine LeO.ite ?_ ?_)
      | (with_reducible refine LeO.bind ?_ (fun _ => ?_))
      | exact ih0 _ _ _
      | exact impl_CompoundTime.mono _ _
      | exact laws_eqSignS.mono _ _ _
      | exact laws_szSignS.mono _ _ _
      | exact laws_toSignS.mono _ _
      | exact spec_CompoundTime.mono _ _
      | exact LeO.none _
      | refine LeO.ite ?_ ?_
      | refine LeO.bind ?_ (fun _ => ?_)

def laws_FnExactCompoundTime.e (k : Nat) : Refl.Ent G := ⟨6, [(.c (.row 33 false))], .one (.c .bool), fun x => laws_FnExactCompoundTime.f k x⟩
def laws_FnExactCompoundTime.pj0 : Refl.Pn G (Refl.PT G (laws_FnExactCompoundTime.e 0).ol) := ⟨false, 1000008, ⟨[(0, .v (.c (.row 33 false))), (6, .v (.c (.row 44 false))), (34, .v (.c .bool)), (2, .k (Value.bool false))], []⟩, fun k x => laws_FnExactCompoundTime.j0 k x.1 x.2.1 x.2.2⟩
theorem laws_FnExactCompoundTime.ok (k : Nat) : Refl.EntOK Tryz.prog (laws_FnExactCompoundTime.e k) := Refl.ent_ok 1000000 k GC (fun k => [laws_szSignS.e k, laws_toSignS.e k, spec_CompoundTime.e k, impl_CompoundTime.e k, laws_eqSignS.e k]) (fun k => ⟨laws_szSignS.ok k, laws_toSignS.ok k, spec_CompoundTime.ok k, impl_CompoundTime.ok k, laws_eqSignS.ok k, trivial⟩) Tryz.func6 (by kernel_rfl) [laws_FnExactCompoundTime.pj0] (ps := [laws_FnExactCompoundTime.pj0]) (by kernel_rfl) ⟨⟨fun x => by kernel_rfl, fun k x => by kernel_rfl⟩, trivial⟩ (fun x => by kernel_rfl)

theorem laws_FnExactCompoundTime.calls (k : Nat) (A0 : Option Addr) (c0 : Nat) (l0 : List (S33)) (r : Bool) (w : World) (hr0 : Kd.C k33 w A0 l0.length l0) (hc0 : l0.length ≤ c0) (h : laws_FnExactCompoundTime.f k l0 = some r) :
    Calls Tryz.prog 6 #[.slice A0 l0.length c0] w fun e w' => e = .returned (.bool r) ∧ Below w.heap.size w w' :=
 Refl.EntOK.use (laws_FnExactCompoundTime.ok k) l0 r h (vals := [.slice A0 l0.length c0]) (by kernel_rfl) (by kernel_rfl) ⟨row_of (k33) rk33 (fun _ _ _ h => k33_open h) rfl hr0 hc0, trivial⟩ (by kernel_rfl)

end Go.Proofs.YtojfncpjgpklhaaGreatDoor.PA
