-- Written by a program of this session (wip/tools/myprint.py). Not trusted: Lean checks it.
import Derived.Test.YtelldeeokpjchaaGreatDoorCtx
import Derived.Test.YtelldeeokpjchaaGreatDoorPAx5
import Derived.Test.YtelldeeokpjchaaGreatDoorPAx6
import Derived.Test.YtelldeeokpjchaaGreatDoorPAx12
namespace Go.Proofs.YtelldeeokpjchaaGreatDoor.PA
open Go.RowKit Go.Proofs.YtelldeeokpjchaaGreatDoorW.PrintWords Go.Proofs.YtelldeeokpjchaaGreatDoorW.PrintLast Go.Proofs.YtelldeeokpjchaaGreatDoorW.PrintMore
attribute [local go_sem] max2_int min2_int max_two min_two max_three min_three max_four min_four   -- for this text's walks alone
set_option linter.unusedVariables false
set_option linter.unusedSimpArgs false

/-! ### spec_l1Most: function 42 -/

def spec_l1Most.f (a0 : Int) (a1 : Int) : Option (Int) := if a0 > a1 then (some a0) else (some a1)

def spec_l1Most.e (k : Nat) : Refl.Ent G := ⟨42, [(.c li), (.c li)], .one (.c li), fun x => spec_l1Most.f x.1 x.2⟩
theorem spec_l1Most.ok (k : Nat) : Refl.EntOK Tryz.prog (spec_l1Most.e k) := Refl.ent_ok 1000000 k GC (fun k => []) (fun k => trivial) Tryz.func42 (by kernel_rfl) [] (ps := []) (by kernel_rfl) trivial (fun x => by kernel_rfl)

/-! ### spec_ruSteps: function 43 -/

def spec_ruSteps.f (k : Nat) (a0_0 : Int) (a0_1 : Int) (a0_2 : Int) (a0_3 : Int) (a0_4 : Int) (a0_5 : Bool) (a0_6 : Int) (a0_7 : Int) (a0_8 : Int) (a0_9 : Int) (a0_10 : Bool) (a0_11 : ByteArray) (a0_12 : Int) (a0_13 : Bool) (a0_14 : Int) (a0_15 : Int) (a0_16 : Int) (a0_17 : Int) (a0_18 : Int) (a0_19 : Bool) (a0_20 : Int) (a0_21 : Int) (a0_22 : Int) (a0_23 : Int) (a0_24 : Bool) (a0_25 : ByteArray) (a0_26 : Int) : Option (Int) := (spec_mvAll.f k a0_11 a0_12).bind fun t722 => ((spec_mvAll.f k a0_25 a0_26).bind fun t723 => ((spec_l1Most.f (t722.size : Int) (t723.size : Int)).bind fun t724 => (some t724)))

theorem spec_ruSteps.mono : ∀ a0 a1 a2 a3 a4 a5 a6 a7 a8 a9 a10 a11 a12 a13 a14 a15 a16 a17 a18 a19 a20 a21 a22 a23 a24 a25 a26 k, LeO (spec_ruSteps.f k a0 a1 a2 a3 a4 a5 a6 a7 a8 a9 a10 a11 a12 a13 a14 a15 a16 a17 a18 a19 a20 a21 a22 a23 a24 a25 a26) (spec_ruSteps.f (k + 1) a0 a1 a2 a3 a4 a5 a6 a7 a8 a9 a10 a11 a12 a13 a14 a15 a16 a17 a18 a19 a20 a21 a22 a23 a24 a25 a26) := by
  intro a0 a1 a2 a3 a4 a5 a6 a7 a8 a9 a10 a11 a12 a13 a14 a15 a16 a17 a18 a19 a20 a21 a22 a23 a24 a25 a26 k
  unfold spec_ruSteps.f
  repeat' first
      | (with_reducible exact spec_mvAll.mono _ _ _)
      | (with_reducible exact LeO.refl _)
      | (with_reducible exact LeO.none _)
      | (with_reducible refine LeO.ite ?_ ?_)
      | (with_reducible refine LeO.bind ?_ (fun _ => ?_))
      | exact spec_mvAll.mono _ _ _
      | exact LeO.none _
      | refine LeO.ite ?_ ?_
      | refine LeO.bind ?_ (fun _ => ?_)

def spec_ruSteps.e (k : Nat) : Refl.Ent G := ⟨43, [(.agg gL5)], .one (.c li), fun x => spec_ruSteps.f k x.1 x.2.1 x.2.2.1 x.2.2.2.1 x.2.2.2.2.1 x.2.2.2.2.2.1 x.2.2.2.2.2.2.1 x.2.2.2.2.2.2.2.1 x.2.2.2.2.2.2.2.2.1 x.2.2.2.2.2.2.2.2.2.1 x.2.2.2.2.2.2.2.2.2.2.1 x.2.2.2.2.2.2.2.2.2.2.2.1 x.2.2.2.2.2.2.2.2.2.2.2.2.1 x.2.2.2.2.2.2.2.2.2.2.2.2.2.1 x.2.2.2.2.2.2.2.2.2.2.2.2.2.2.1 x.2.2.2.2.2.2.2.2.2.2.2.2.2.2.2.1 x.2.2.2.2.2.2.2.2.2.2.2.2.2.2.2.2.1 x.2.2.2.2.2.2.2.2.2.2.2.2.2.2.2.2.2.1 x.2.2.2.2.2.2.2.2.2.2.2.2.2.2.2.2.2.2.1 x.2.2.2.2.2.2.2.2.2.2.2.2.2.2.2.2.2.2.2.1 x.2.2.2.2.2.2.2.2.2.2.2.2.2.2.2.2.2.2.2.2.1 x.2.2.2.2.2.2.2.2.2.2.2.2.2.2.2.2.2.2.2.2.2.1 x.2.2.2.2.2.2.2.2.2.2.2.2.2.2.2.2.2.2.2.2.2.2.1 x.2.2.2.2.2.2.2.2.2.2.2.2.2.2.2.2.2.2.2.2.2.2.2.1 x.2.2.2.2.2.2.2.2.2.2.2.2.2.2.2.2.2.2.2.2.2.2.2.2.1 x.2.2.2.2.2.2.2.2.2.2.2.2.2.2.2.2.2.2.2.2.2.2.2.2.2.1 x.2.2.2.2.2.2.2.2.2.2.2.2.2.2.2.2.2.2.2.2.2.2.2.2.2.2⟩
theorem spec_ruSteps.ok (k : Nat) : Refl.EntOK Tryz.prog (spec_ruSteps.e k) := Refl.ent_ok 1000000 k GC (fun k => [spec_mvAll.e k, spec_l1Most.e k]) (fun k => ⟨spec_mvAll.ok k, spec_l1Most.ok k, trivial⟩) Tryz.func43 (by kernel_rfl) [] (ps := []) (by kernel_rfl) trivial (fun x => by kernel_rfl)

/-! ### spec_TightestSteps: function 21 -/

def spec_TightestSteps.l0 : Nat → Int → List (S40) → Int → Int → Option (Int × Bool)
  | 0, _, _, _, _ => none
  | k + 1, x4, x10, x11, x12 => if x12 < x11 then (if 0 ≤ x12 then (if x12 < (x10.length : Int) then ((spec_ruSteps.f k ((rd_T40 x10 x12).f0.f0.f0) ((rd_T40 x10 x12).f0.f0.f1) ((rd_T40 x10 x12).f0.f0.f2) ((rd_T40 x10 x12).f0.f0.f3) ((rd_T40 x10 x12).f0.f0.f4) ((rd_T40 x10 x12).f0.f0.f5) ((rd_T40 x10 x12).f0.f1.f0) ((rd_T40 x10 x12).f0.f1.f1) ((rd_T40 x10 x12).f0.f2.f0) ((rd_T40 x10 x12).f0.f2.f1) ((rd_T40 x10 x12).f0.f2.f2) ((rd_T40 x10 x12).f0.f3.f0) ((rd_T40 x10 x12).f0.f3.f1) ((rd_T40 x10 x12).f1) ((rd_T40 x10 x12).f2.f0.f0) ((rd_T40 x10 x12).f2.f0.f1) ((rd_T40 x10 x12).f2.f0.f2) ((rd_T40 x10 x12).f2.f0.f3) ((rd_T40 x10 x12).f2.f0.f4) ((rd_T40 x10 x12).f2.f0.f5) ((rd_T40 x10 x12).f2.f1.f0) ((rd_T40 x10 x12).f2.f1.f1) ((rd_T40 x10 x12).f2.f2.f0) ((rd_T40 x10 x12).f2.f2.f1) ((rd_T40 x10 x12).f2.f2.f2) ((rd_T40 x10 x12).f2.f3.f0) ((rd_T40 x10 x12).f2.f3.f1)).bind fun t728 => ((spec_l1Most.f x4 t728).bind fun t729 => (spec_TightestSteps.l0 k t729 x10 x11 (wrap64 (x12 + 1))))) else (none)) else (none)) else (some (x4, true))

def spec_TightestSteps.f (k : Nat) (l0 : List (S40)) : Option (Int × Bool) := (spec_paList.f k l0).bind fun t725 => (if t725 = true then (spec_TightestSteps.l0 k 0 l0 (l0.length : Int) 0) else (some (0, false)))

theorem spec_TightestSteps.mono_l : ∀ k, (∀ y0 y1 y2 y3, LeO (spec_TightestSteps.l0 k y0 y1 y2 y3) (spec_TightestSteps.l0 (k + 1) y0 y1 y2 y3))
  | 0 => fun _ _ _ _ r h => by simp [spec_TightestSteps.l0] at h
  | k + 1 => by
    have ih0 := spec_TightestSteps.mono_l k
    · intro y0 y1 y2 y3
      unfold spec_TightestSteps.l0
      repeat' first
      | (with_reducible exact ih0 _ _ _ _)
      | (with_reducible exact spec_paList.mono _ _)
      | (with_reducible exact spec_ruSteps.mono _ _ _ _ _ _ _ _ _ _ _ _ _ _ _ _ _ _ _ _ _ _ _ _ _ _ _ _)
      | (with_reducible exact LeO.refl _)
      | (with_reducible exact LeO.none _)
      | (with_reducible refine LeO.ite ?_ ?_)
      | (with_reducible refine LeO.bind ?_ (fun _ => ?_))
      | exact ih0 _ _ _ _
      | exact spec_paList.mono _ _
      | exact spec_ruSteps.mono _ _ _ _ _ _ _ _ _ _ _ _ _ _ _ _ _ _ _ _ _ _ _ _ _ _ _ _
      | exact LeO.none _
      | refine LeO.ite ?_ ?_
      | refine LeO.bind ?_ (fun _ => ?_)

theorem spec_TightestSteps.mono : ∀ a0 k, LeO (spec_TightestSteps.f k a0) (spec_TightestSteps.f (k + 1) a0) := by
  intro a0 k
  have ih0 := spec_TightestSteps.mono_l k
  unfold spec_TightestSteps.f
  repeat' first
      | (with_reducible exact ih0 _ _ _ _)
      | (with_reducible exact spec_paList.mono _ _)
      | (with_reducible exact spec_ruSteps.mono _ _ _ _ _ _ _ _ _ _ _ _ _ _ _ _ _ _ _ _ _ _ _ _ _ _ _ _)
      | (with_reducible exact LeO.refl _)
      | (with_reducible exact LeO.none _)
      | (with_reducible refine LeO.ite ?_ ?_)
      | (with_reducible refine LeO.bind ?_ (fun _ => ?_))
      | exact ih0 _ _ _ _
      | exact spec_paList.mono _ _
      | exact spec_ruSteps.mono _ _ _ _ _ _ _ _ _ _ _ _ _ _ _ _ _ _ _ _ _ _ _ _ _ _ _ _
      | exact LeO.none _
      | refine LeO.ite ?_ ?_
      | refine LeO.bind ?_ (fun _ => ?_)

def spec_TightestSteps.e (k : Nat) : Refl.Ent G := ⟨21, [(.c (.row 40 false))], .tup [(.c li), (.c .bool)], fun x => spec_TightestSteps.f k x⟩
def spec_TightestSteps.pl0 : Refl.Pn G (Refl.PT G (spec_TightestSteps.e 0).ol) := ⟨true, 0, ⟨[(4, .v (.c li)), (10, .v (.c (.row 40 false))), (11, .v (.c li)), (12, .v (.c li)), (2, .k (Value.int IntKind.i64 0)), (3, .k (Value.bool false))], []⟩, fun k x => spec_TightestSteps.l0 k x.1 x.2.1 x.2.2.1 x.2.2.2⟩
theorem spec_TightestSteps.ok (k : Nat) : Refl.EntOK Tryz.prog (spec_TightestSteps.e k) := Refl.ent_ok 1000000 k GC (fun k => [spec_paList.e k, spec_ruSteps.e k, spec_l1Most.e k]) (fun k => ⟨spec_paList.ok k, spec_ruSteps.ok k, spec_l1Most.ok k, trivial⟩) Tryz.func21 (by kernel_rfl) [spec_TightestSteps.pl0] (ps := [spec_TightestSteps.pl0]) (by kernel_rfl) ⟨⟨fun x => by kernel_rfl, fun k x => by kernel_rfl⟩, trivial⟩ (fun x => by kernel_rfl)

/-! ### impl_Sign_steps: function 45 -/

def impl_Sign_steps.f (a0_0 : Int) (a0_1 : Int) (a0_2 : Int) (a0_3 : Int) (a0_4 : Int) (a0_5 : Bool) (a0_6 : Int) (a0_7 : Int) (a0_8 : Int) (a0_9 : Int) (a0_10 : Bool) (a0_11 : ByteArray) (a0_12 : Int) (a0_13 : Bool) (a0_14 : Int) (a0_15 : Int) (a0_16 : Int) (a0_17 : Int) (a0_18 : Int) (a0_19 : Bool) (a0_20 : Int) (a0_21 : Int) (a0_22 : Int) (a0_23 : Int) (a0_24 : Bool) (a0_25 : ByteArray) (a0_26 : Int) : Option (Int) := (impl_Move_all.f a0_11 a0_12).bind fun t763 => ((impl_Move_all.f a0_25 a0_26).bind fun t764 => (some (mx (t763.size : Int) (t764.size : Int))))

def impl_Sign_steps.e (k : Nat) : Refl.Ent G := ⟨45, [(.agg gL5)], .one (.c li), fun x => impl_Sign_steps.f x.1 x.2.1 x.2.2.1 x.2.2.2.1 x.2.2.2.2.1 x.2.2.2.2.2.1 x.2.2.2.2.2.2.1 x.2.2.2.2.2.2.2.1 x.2.2.2.2.2.2.2.2.1 x.2.2.2.2.2.2.2.2.2.1 x.2.2.2.2.2.2.2.2.2.2.1 x.2.2.2.2.2.2.2.2.2.2.2.1 x.2.2.2.2.2.2.2.2.2.2.2.2.1 x.2.2.2.2.2.2.2.2.2.2.2.2.2.1 x.2.2.2.2.2.2.2.2.2.2.2.2.2.2.1 x.2.2.2.2.2.2.2.2.2.2.2.2.2.2.2.1 x.2.2.2.2.2.2.2.2.2.2.2.2.2.2.2.2.1 x.2.2.2.2.2.2.2.2.2.2.2.2.2.2.2.2.2.1 x.2.2.2.2.2.2.2.2.2.2.2.2.2.2.2.2.2.2.1 x.2.2.2.2.2.2.2.2.2.2.2.2.2.2.2.2.2.2.2.1 x.2.2.2.2.2.2.2.2.2.2.2.2.2.2.2.2.2.2.2.2.1 x.2.2.2.2.2.2.2.2.2.2.2.2.2.2.2.2.2.2.2.2.2.1 x.2.2.2.2.2.2.2.2.2.2.2.2.2.2.2.2.2.2.2.2.2.2.1 x.2.2.2.2.2.2.2.2.2.2.2.2.2.2.2.2.2.2.2.2.2.2.2.1 x.2.2.2.2.2.2.2.2.2.2.2.2.2.2.2.2.2.2.2.2.2.2.2.2.1 x.2.2.2.2.2.2.2.2.2.2.2.2.2.2.2.2.2.2.2.2.2.2.2.2.2.1 x.2.2.2.2.2.2.2.2.2.2.2.2.2.2.2.2.2.2.2.2.2.2.2.2.2.2⟩
theorem impl_Sign_steps.ok (k : Nat) : Refl.EntOK Tryz.prog (impl_Sign_steps.e k) := Refl.ent_ok 1000000 k GC (fun k => [impl_Move_all.e k]) (fun k => ⟨impl_Move_all.ok k, trivial⟩) Tryz.func45 (by kernel_rfl) [] (ps := []) (by kernel_rfl) trivial (fun x => by kernel_rfl)

/-! ### impl_TightestSteps: function 23 -/

def impl_TightestSteps.l0 : Nat → Int → List (S40) → Int → Int → Option (Int × Bool)
  | 0, _, _, _, _ => none
  | k + 1, x4, x10, x11, x12 => if x12 < x11 then (if 0 ≤ x12 then (if x12 < (x10.length : Int) then ((impl_Sign_steps.f ((rd_T40 x10 x12).f0.f0.f0) ((rd_T40 x10 x12).f0.f0.f1) ((rd_T40 x10 x12).f0.f0.f2) ((rd_T40 x10 x12).f0.f0.f3) ((rd_T40 x10 x12).f0.f0.f4) ((rd_T40 x10 x12).f0.f0.f5) ((rd_T40 x10 x12).f0.f1.f0) ((rd_T40 x10 x12).f0.f1.f1) ((rd_T40 x10 x12).f0.f2.f0) ((rd_T40 x10 x12).f0.f2.f1) ((rd_T40 x10 x12).f0.f2.f2) ((rd_T40 x10 x12).f0.f3.f0) ((rd_T40 x10 x12).f0.f3.f1) ((rd_T40 x10 x12).f1) ((rd_T40 x10 x12).f2.f0.f0) ((rd_T40 x10 x12).f2.f0.f1) ((rd_T40 x10 x12).f2.f0.f2) ((rd_T40 x10 x12).f2.f0.f3) ((rd_T40 x10 x12).f2.f0.f4) ((rd_T40 x10 x12).f2.f0.f5) ((rd_T40 x10 x12).f2.f1.f0) ((rd_T40 x10 x12).f2.f1.f1) ((rd_T40 x10 x12).f2.f2.f0) ((rd_T40 x10 x12).f2.f2.f1) ((rd_T40 x10 x12).f2.f2.f2) ((rd_T40 x10 x12).f2.f3.f0) ((rd_T40 x10 x12).f2.f3.f1)).bind fun t768 => (impl_TightestSteps.l0 k (mx x4 t768) x10 x11 (wrap64 (x12 + 1)))) else (none)) else (none)) else (some (x4, true))

def impl_TightestSteps.f (k : Nat) (l0 : List (S40)) : Option (Int × Bool) := (impl_areSigns.f k l0 20).bind fun t765 => (if t765 = true then (impl_TightestSteps.l0 k 0 l0 (l0.length : Int) 0) else (some (0, false)))

theorem impl_TightestSteps.mono_l : ∀ k, (∀ y0 y1 y2 y3, LeO (impl_TightestSteps.l0 k y0 y1 y2 y3) (impl_TightestSteps.l0 (k + 1) y0 y1 y2 y3))
  | 0 => fun _ _ _ _ r h => by simp [impl_TightestSteps.l0] at h
  | k + 1 => by
    have ih0 := impl_TightestSteps.mono_l k
    · intro y0 y1 y2 y3
      unfold impl_TightestSteps.l0
      repeat' first
      | (with_reducible exact ih0 _ _ _ _)
      | (with_reducible exact impl_areSigns.mono _ _ _)
      | (with_reducible exact LeO.refl _)
      | (with_reducible exact LeO.none _)
      | (with_reducible refine LeO.ite ?_ ?_)
      | (with_reducible refine LeO.bind ?_ (fun _ => ?_))
      | exact ih0 _ _ _ _
      | exact impl_areSigns.mono _ _ _
      | exact LeO.none _
      | refine LeO.ite ?_ ?_
      | refine LeO.bind ?_ (fun _ => ?_)

theorem impl_TightestSteps.mono : ∀ a0 k, LeO (impl_TightestSteps.f k a0) (impl_TightestSteps.f (k + 1) a0) := by
  intro a0 k
  have ih0 := impl_TightestSteps.mono_l k
  unfold impl_TightestSteps.f
  repeat' first
      | (with_reducible exact ih0 _ _ _ _)
      | (with_reducible exact impl_areSigns.mono _ _ _)
      | (with_reducible exact LeO.refl _)
      | (with_reducible exact LeO.none _)
      | (with_reducible refine LeO.ite ?_ ?_)
      | (with_reducible refine LeO.bind ?_ (fun _ => ?_))
      | exact ih0 _ _ _ _
      | exact impl_areSigns.mono _ _ _
      | exact LeO.none _
      | refine LeO.ite ?_ ?_
      | refine LeO.bind ?_ (fun _ => ?_)

def impl_TightestSteps.e (k : Nat) : Refl.Ent G := ⟨23, [(.c (.row 40 false))], .tup [(.c li), (.c .bool)], fun x => impl_TightestSteps.f k x⟩
def impl_TightestSteps.pl0 : Refl.Pn G (Refl.PT G (impl_TightestSteps.e 0).ol) := ⟨true, 0, ⟨[(4, .v (.c li)), (10, .v (.c (.row 40 false))), (11, .v (.c li)), (12, .v (.c li)), (2, .k (Value.int IntKind.i64 0)), (3, .k (Value.bool false))], []⟩, fun k x => impl_TightestSteps.l0 k x.1 x.2.1 x.2.2.1 x.2.2.2⟩
theorem impl_TightestSteps.ok (k : Nat) : Refl.EntOK Tryz.prog (impl_TightestSteps.e k) := Refl.ent_ok 1000000 k GC (fun k => [impl_areSigns.e k, impl_Sign_steps.e k]) (fun k => ⟨impl_areSigns.ok k, impl_Sign_steps.ok k, trivial⟩) Tryz.func23 (by kernel_rfl) [impl_TightestSteps.pl0] (ps := [impl_TightestSteps.pl0]) (by kernel_rfl) ⟨⟨fun x => by kernel_rfl, fun k x => by kernel_rfl⟩, trivial⟩ (fun x => by kernel_rfl)

/-! ### laws_FnExactTightestSteps: function 6 -/

def laws_FnExactTightestSteps.j0 : Nat → List (S47) → List (S40) → Bool → Option (Bool)
  | 0, _, _, _ => none
  | k + 1, x0, x6, x34 => if x34 = true then (some false) else ((laws_toSignS.f k x0).bind fun t783 => ((laws_eqSignS.f k x6 t783).bind fun t786 => (if t786 = true then (some true) else (some false))))

def laws_FnExactTightestSteps.f (k : Nat) (l0 : List (S47)) : Option (Bool) := (laws_szSignS.f k l0 1048576).bind fun t772 => (if t772 < 0 then (some true) else ((laws_toSignS.f k l0).bind fun t773 => ((spec_TightestSteps.f k t773).bind fun bt776 => ((laws_toSignS.f k l0).bind fun t778 => ((impl_TightestSteps.f k t778).bind fun bt781 => (if bt781.1 = bt776.1 then (laws_FnExactTightestSteps.j0 k l0 t778 (!(bt781.2 == bt776.2))) else (laws_FnExactTightestSteps.j0 k l0 t778 true)))))))

theorem laws_FnExactTightestSteps.mono_l : ∀ k, (∀ y0 y1 y2, LeO (laws_FnExactTightestSteps.j0 k y0 y1 y2) (laws_FnExactTightestSteps.j0 (k + 1) y0 y1 y2))
  | 0 => fun _ _ _ r h => by simp [laws_FnExactTightestSteps.j0] at h
  | k + 1 => by
    have ih0 := laws_FnExactTightestSteps.mono_l k
    · intro y0 y1 y2
      unfold laws_FnExactTightestSteps.j0
      repeat' first
      | (with_reducible exact ih0 _ _ _)
      | (with_reducible exact impl_TightestSteps.mono _ _)
      | (with_reducible exact laws_eqSignS.mono _ _ _)
      | (with_reducible exact laws_szSignS.mono _ _ _)
      | (with_reducible exact laws_toSignS.mono _ _)
      | (with_reducible exact spec_TightestSteps.mono _ _)
      | (with_reducible exact LeO.refl _)
      | (with_reducible exact LeO.none _)
      | (with_reducible refine LeO.ite ?_ ?_)
      | (with_reducible refine LeO.bind ?_ (fun _ => ?_))
      | exact ih0 _ _ _
      | exact impl_TightestSteps.mono _ _
      | exact laws_eqSignS.mono _ _ _
      | exact laws_szSignS.mono _ _ _
      | exact laws_toSignS.mono _ _
      | exact spec_TightestSteps.mono _ _
      | exact LeO.none _
      | refine LeO.ite ?_ ?_
      | refine LeO.bind ?_ (fun _ => ?_)

theorem laws_FnExactTightestSteps.mono : ∀ a0 k, LeO (laws_FnExactTightestSteps.f k a0) (laws_FnExactTightestSteps.f (k + 1) a0) := by
  intro a0 k
  have ih0 := laws_FnExactTightestSteps.mono_l k
  unfold laws_FnExactTightestSteps.f
  repeat' first
      | (with_reducible exact ih0 _ _ _)
      | (with_reducible exact impl_TightestSteps.mono _ _)
      | (with_reducible exact laws_eqSignS.mono _ _ _)
      | (with_reducible exact laws_szSignS.mono _ _ _)
      | (with_reducible exact laws_toSignS.mono _ _)
      | (with_reducible exact spec_TightestSteps.mono _ _)
      | (with_reducible exact LeO.refl _)
      | (with_reducible exact LeO.none _)
      | (with_reducible refine LeO.ite ?_ ?_)
      | (with_reducible refine LeO.bind ?_ (fun _ => ?_))
      | exact ih0 _ _ _
      | exact impl_TightestSteps.mono _ _
      | exact laws_eqSignS.mono _ _ _
      | exact laws_szSignS.mono _ _ _
      | exact laws_toSignS.mono _ _
      | exact spec_TightestSteps.mono _ _
      | exact LeO.none _
      | refine LeO.ite ?_ ?_
      | refine LeO.bind ?_ (fun _ => ?_)

def laws_FnExactTightestSteps.e (k : Nat) : Refl.Ent G := ⟨6, [(.c (.row 47 false))], .one (.c .bool), fun x => laws_FnExactTightestSteps.f k x⟩
def laws_FnExactTightestSteps.pj0 : Refl.Pn G (Refl.PT G (laws_FnExactTightestSteps.e 0).ol) := ⟨false, 1000008, ⟨[(0, .v (.c (.row 47 false))), (6, .v (.c (.row 40 false))), (34, .v (.c .bool)), (2, .k (Value.bool false))], []⟩, fun k x => laws_FnExactTightestSteps.j0 k x.1 x.2.1 x.2.2⟩
theorem laws_FnExactTightestSteps.ok (k : Nat) : Refl.EntOK Tryz.prog (laws_FnExactTightestSteps.e k) := Refl.ent_ok 1000000 k GC (fun k => [laws_szSignS.e k, laws_toSignS.e k, spec_TightestSteps.e k, impl_TightestSteps.e k, laws_eqSignS.e k]) (fun k => ⟨laws_szSignS.ok k, laws_toSignS.ok k, spec_TightestSteps.ok k, impl_TightestSteps.ok k, laws_eqSignS.ok k, trivial⟩) Tryz.func6 (by kernel_rfl) [laws_FnExactTightestSteps.pj0] (ps := [laws_FnExactTightestSteps.pj0]) (by kernel_rfl) ⟨⟨fun x => by kernel_rfl, fun k x => by kernel_rfl⟩, trivial⟩ (fun x => by kernel_rfl)

theorem laws_FnExactTightestSteps.calls (k : Nat) (A0 : Option Addr) (c0 : Nat) (l0 : List (S47)) (r : Bool) (w : World) (hr0 : Kd.C k47 w A0 l0.length l0) (hc0 : l0.length ≤ c0) (h : laws_FnExactTightestSteps.f k l0 = some r) :
    Calls Tryz.prog 6 #[.slice A0 l0.length c0] w fun e w' => e = .returned (.bool r) ∧ Below w.heap.size w w' :=
 Refl.EntOK.use (laws_FnExactTightestSteps.ok k) l0 r h (vals := [.slice A0 l0.length c0]) (by kernel_rfl) (by kernel_rfl) ⟨row_of (k47) rk47 (fun _ _ _ h => k47_open h) rfl hr0 hc0, trivial⟩ (by kernel_rfl)

end Go.Proofs.YtelldeeokpjchaaGreatDoor.PA
