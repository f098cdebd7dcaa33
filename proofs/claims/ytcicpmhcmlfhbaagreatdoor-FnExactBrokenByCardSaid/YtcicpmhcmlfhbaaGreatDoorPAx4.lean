-- Written by a program of this session (wip/tools/myprint.py). Not trusted: Lean checks it.
import Derived.Test.YtcicpmhcmlfhbaaGreatDoorCtx
namespace Go.Proofs.YtcicpmhcmlfhbaaGreatDoor.PA
open Go.RowKit Go.Proofs.YtcicpmhcmlfhbaaGreatDoorW.PrintWords Go.Proofs.YtcicpmhcmlfhbaaGreatDoorW.PrintLast Go.Proofs.YtcicpmhcmlfhbaaGreatDoorW.PrintMore
attribute [local go_sem] max2_int min2_int max_two min_two max_three min_three max_four min_four   -- for this text's walks alone
set_option linter.unusedVariables false
set_option linter.unusedSimpArgs false

/-! ### spec_l1In: function 132 -/

def spec_l1In.f (a0 : Int) (a1 : Int) (a2 : Int) : Option (Bool) := if a0 ≥ a1 then (some (decide (a0 ≤ a2))) else (some false)

def spec_l1In.e (k : Nat) : Refl.Ent G := ⟨132, [(.c li), (.c li), (.c li)], .one (.c .bool), fun x => spec_l1In.f x.1 x.2.1 x.2.2⟩
theorem spec_l1In.ok (k : Nat) : Refl.EntOK Tryz.prog (spec_l1In.e k) := Refl.ent_ok 1000000 k GC (fun k => []) (fun k => trivial) Tryz.func132 (by kernel_rfl) [] (ps := []) (by kernel_rfl) trivial (fun x => by kernel_rfl)

/-! ### spec_shFingers: function 146 -/

def spec_shFingers.f (a0_0 : Int) (a0_1 : Int) (a0_2 : Int) (a0_3 : Int) (a0_4 : Int) (a0_5 : Bool) : Option (List Int) := some (([a0_1, a0_2, a0_3, a0_4] : List Int))

def spec_shFingers.e (k : Nat) : Refl.Ent G := ⟨146, [(.agg [li, li, li, li, li, .bool])], .one (.c (.row 3 true)), fun x => spec_shFingers.f x.1 x.2.1 x.2.2.1 x.2.2.2.1 x.2.2.2.2.1 x.2.2.2.2.2⟩
theorem spec_shFingers.ok (k : Nat) : Refl.EntOK Tryz.prog (spec_shFingers.e k) := Refl.ent_ok 1000000 k GC (fun k => []) (fun k => trivial) Tryz.func146 (by kernel_rfl) [] (ps := []) (by kernel_rfl) trivial (fun x => by kernel_rfl)

/-! ### spec_l1All: function 151 -/

def spec_l1All.l0 : Nat → Int → Int → List Int → Int → Int → Option (Bool)
  | 0, _, _, _, _, _ => none
  | k + 1, x1, x2, x9, x10, x11 => if x11 < x10 then (if 0 ≤ x11 then (if x11 < (x9.length : Int) then ((spec_l1In.f (rd x9 x11) x1 x2).bind fun t116 => (if t116 = true then (spec_l1All.l0 k x1 x2 x9 x10 (wrap64 (x11 + 1))) else (some false))) else (none)) else (none)) else (some true)

def spec_l1All.f (k : Nat) (l0 : List Int) (a1 : Int) (a2 : Int) : Option (Bool) := spec_l1All.l0 k a1 a2 l0 (l0.length : Int) 0

theorem spec_l1All.mono_l : ∀ k, (∀ y0 y1 y2 y3 y4, LeO (spec_l1All.l0 k y0 y1 y2 y3 y4) (spec_l1All.l0 (k + 1) y0 y1 y2 y3 y4))
  | 0 => fun _ _ _ _ _ r h => by simp [spec_l1All.l0] at h
  | k + 1 => by
    have ih0 := spec_l1All.mono_l k
    · intro y0 y1 y2 y3 y4
      unfold spec_l1All.l0
      repeat' first
      | (with_reducible exact ih0 _ _ _ _ _)
      | (with_reducible exact LeO.refl _)
      | (with_reducible exact LeO.none _)
      | (with_reducible refine LeO.ite ?_ ?_)
      | (with_reducible refine LeO.bind ?_ (fun _ => ?_))
      | exact ih0 _ _ _ _ _
      | exact LeO.none _
      | refine LeO.ite ?_ ?_
      | refine LeO.bind ?_ (fun _ => ?_)

theorem spec_l1All.mono : ∀ a0 a1 a2 k, LeO (spec_l1All.f k a0 a1 a2) (spec_l1All.f (k + 1) a0 a1 a2) := by
  intro a0 a1 a2 k
  have ih0 := spec_l1All.mono_l k
  unfold spec_l1All.f
  repeat' first
      | (with_reducible exact ih0 _ _ _ _ _)
      | (with_reducible exact LeO.refl _)
      | (with_reducible exact LeO.none _)
      | (with_reducible refine LeO.ite ?_ ?_)
      | (with_reducible refine LeO.bind ?_ (fun _ => ?_))
      | exact ih0 _ _ _ _ _
      | exact LeO.none _
      | refine LeO.ite ?_ ?_
      | refine LeO.bind ?_ (fun _ => ?_)

def spec_l1All.e (k : Nat) : Refl.Ent G := ⟨151, [(.c (.row 3 false)), (.c li), (.c li)], .one (.c .bool), fun x => spec_l1All.f k x.1 x.2.1 x.2.2⟩
def spec_l1All.pl0 : Refl.Pn G (Refl.PT G (spec_l1All.e 0).ol) := ⟨true, 0, ⟨[(1, .v (.c li)), (2, .v (.c li)), (9, .v (.c (.row 3 false))), (10, .v (.c li)), (11, .v (.c li)), (6, .k (Value.bool false))], []⟩, fun k x => spec_l1All.l0 k x.1 x.2.1 x.2.2.1 x.2.2.2.1 x.2.2.2.2⟩
theorem spec_l1All.ok (k : Nat) : Refl.EntOK Tryz.prog (spec_l1All.e k) := Refl.ent_ok 1000000 k GC (fun k => [spec_l1In.e k]) (fun k => ⟨spec_l1In.ok k, trivial⟩) Tryz.func151 (by kernel_rfl) [spec_l1All.pl0] (ps := [spec_l1All.pl0]) (by kernel_rfl) ⟨⟨fun x => by kernel_rfl, fun k x => by kernel_rfl⟩, trivial⟩ (fun x => by kernel_rfl)

/-! ### spec_shWide: function 152 -/

def spec_shWide.l0 : Nat → List Int → Int → Option (Bool)
  | 0, _, _ => none
  | k + 1, x3, x4 => if x4 < 4 then (if 0 ≤ (wrap64 (x4 - 1)) then (if (wrap64 (x4 - 1)) < (x3.length : Int) then (if (rd x3 (wrap64 (x4 - 1))) = 0 then (if 0 ≤ x4 then (if x4 < (x3.length : Int) then (if (rd x3 x4) = 0 then (some true) else (spec_shWide.l0 k x3 (wrap64 (x4 + 1)))) else (none)) else (none)) else (spec_shWide.l0 k x3 (wrap64 (x4 + 1)))) else (none)) else (none)) else (some false)

def spec_shWide.f (k : Nat) (a0_0 : Int) (a0_1 : Int) (a0_2 : Int) (a0_3 : Int) (a0_4 : Int) (a0_5 : Bool) : Option (Bool) := (spec_shFingers.f a0_0 a0_1 a0_2 a0_3 a0_4 a0_5).bind fun t118 => (spec_shWide.l0 k t118 1)

theorem spec_shWide.mono_l : ∀ k, (∀ y0 y1, LeO (spec_shWide.l0 k y0 y1) (spec_shWide.l0 (k + 1) y0 y1))
  | 0 => fun _ _ r h => by simp [spec_shWide.l0] at h
  | k + 1 => by
    have ih0 := spec_shWide.mono_l k
    · intro y0 y1
      unfold spec_shWide.l0
      repeat' first
      | (with_reducible exact ih0 _ _)
      | (with_reducible exact LeO.refl _)
      | (with_reducible exact LeO.none _)
      | (with_reducible refine LeO.ite ?_ ?_)
      | (with_reducible refine LeO.bind ?_ (fun _ => ?_))
      | exact ih0 _ _
      | exact LeO.none _
      | refine LeO.ite ?_ ?_
      | refine LeO.bind ?_ (fun _ => ?_)

theorem spec_shWide.mono : ∀ a0 a1 a2 a3 a4 a5 k, LeO (spec_shWide.f k a0 a1 a2 a3 a4 a5) (spec_shWide.f (k + 1) a0 a1 a2 a3 a4 a5) := by
  intro a0 a1 a2 a3 a4 a5 k
  have ih0 := spec_shWide.mono_l k
  unfold spec_shWide.f
  repeat' first
      | (with_reducible exact ih0 _ _)
      | (with_reducible exact LeO.refl _)
      | (with_reducible exact LeO.none _)
      | (with_reducible refine LeO.ite ?_ ?_)
      | (with_reducible refine LeO.bind ?_ (fun _ => ?_))
      | exact ih0 _ _
      | exact LeO.none _
      | refine LeO.ite ?_ ?_
      | refine LeO.bind ?_ (fun _ => ?_)

def spec_shWide.e (k : Nat) : Refl.Ent G := ⟨152, [(.agg [li, li, li, li, li, .bool])], .one (.c .bool), fun x => spec_shWide.f k x.1 x.2.1 x.2.2.1 x.2.2.2.1 x.2.2.2.2.1 x.2.2.2.2.2⟩
def spec_shWide.pl0 : Refl.Pn G (Refl.PT G (spec_shWide.e 0).ol) := ⟨true, 0, ⟨[(3, .v (.c (.row 3 false))), (4, .v (.c li)), (2, .k (Value.bool false))], []⟩, fun k x => spec_shWide.l0 k x.1 x.2⟩
theorem spec_shWide.ok (k : Nat) : Refl.EntOK Tryz.prog (spec_shWide.e k) := Refl.ent_ok 1000000 k GC (fun k => [spec_shFingers.e k]) (fun k => ⟨spec_shFingers.ok k, trivial⟩) Tryz.func152 (by kernel_rfl) [spec_shWide.pl0] (ps := [spec_shWide.pl0]) (by kernel_rfl) ⟨⟨fun x => by kernel_rfl, fun k x => by kernel_rfl⟩, trivial⟩ (fun x => by kernel_rfl)

/-! ### spec_shGood: function 106 -/

def spec_shGood.f (k : Nat) (a0_0 : Int) (a0_1 : Int) (a0_2 : Int) (a0_3 : Int) (a0_4 : Int) (a0_5 : Bool) : Option (Bool) := (spec_l1In.f a0_0 0 2).bind fun t124 => (if t124 = true then ((spec_shFingers.f a0_0 a0_1 a0_2 a0_3 a0_4 a0_5).bind fun t125 => ((spec_l1All.f k t125 0 2).bind fun t128 => (if t128 = true then (if a0_5 = true then ((spec_shWide.f k a0_0 a0_1 a0_2 a0_3 a0_4 a0_5).bind fun t129 => (some t129)) else (some true)) else (some false)))) else (some false))

theorem spec_shGood.mono : ∀ a0 a1 a2 a3 a4 a5 k, LeO (spec_shGood.f k a0 a1 a2 a3 a4 a5) (spec_shGood.f (k + 1) a0 a1 a2 a3 a4 a5) := by
  intro a0 a1 a2 a3 a4 a5 k
  unfold spec_shGood.f
  repeat' first
      | (with_reducible exact spec_l1All.mono _ _ _ _)
      | (with_reducible exact spec_shWide.mono _ _ _ _ _ _ _)
      | (with_reducible exact LeO.refl _)
      | (with_reducible exact LeO.none _)
      | (with_reducible refine LeO.ite ?_ ?_)
      | (with_reducible refine LeO.bind ?_ (fun _ => ?_))
      | exact spec_l1All.mono _ _ _ _
      | exact spec_shWide.mono _ _ _ _ _ _ _
      | exact LeO.none _
      | refine LeO.ite ?_ ?_
      | refine LeO.bind ?_ (fun _ => ?_)

def spec_shGood.e (k : Nat) : Refl.Ent G := ⟨106, [(.agg [li, li, li, li, li, .bool])], .one (.c .bool), fun x => spec_shGood.f k x.1 x.2.1 x.2.2.1 x.2.2.2.1 x.2.2.2.2.1 x.2.2.2.2.2⟩
theorem spec_shGood.ok (k : Nat) : Refl.EntOK Tryz.prog (spec_shGood.e k) := Refl.ent_ok 1000000 k GC (fun k => [spec_l1In.e k, spec_shFingers.e k, spec_l1All.e k, spec_shWide.e k]) (fun k => ⟨spec_l1In.ok k, spec_shFingers.ok k, spec_l1All.ok k, spec_shWide.ok k, trivial⟩) Tryz.func106 (by kernel_rfl) [] (ps := []) (by kernel_rfl) trivial (fun x => by kernel_rfl)

/-! ### spec_orDir: function 153 -/

def spec_orDir.f (a0 : Int) : Option (Bool) := (spec_l1In.f a0 0 5).bind fun t130 => (some t130)

def spec_orDir.e (k : Nat) : Refl.Ent G := ⟨153, [(.c li)], .one (.c .bool), fun x => spec_orDir.f x⟩
theorem spec_orDir.ok (k : Nat) : Refl.EntOK Tryz.prog (spec_orDir.e k) := Refl.ent_ok 1000000 k GC (fun k => [spec_l1In.e k]) (fun k => ⟨spec_l1In.ok k, trivial⟩) Tryz.func153 (by kernel_rfl) [] (ps := []) (by kernel_rfl) trivial (fun x => by kernel_rfl)

/-! ### spec_orOpposite: function 154 -/

def spec_orOpposite.f (a0 : Int) : Option (Int) := if (Int.tmod a0 2) = 0 then (some (wrap64 (a0 + 1))) else (some (wrap64 (a0 - 1)))

def spec_orOpposite.e (k : Nat) : Refl.Ent G := ⟨154, [(.c li)], .one (.c li), fun x => spec_orOpposite.f x⟩
theorem spec_orOpposite.ok (k : Nat) : Refl.EntOK Tryz.prog (spec_orOpposite.e k) := Refl.ent_ok 1000000 k GC (fun k => []) (fun k => trivial) Tryz.func154 (by kernel_rfl) [] (ps := []) (by kernel_rfl) trivial (fun x => by kernel_rfl)

/-! ### spec_orGood: function 107 -/

def spec_orGood.f (a0_0 : Int) (a0_1 : Int) : Option (Bool) := (spec_orDir.f a0_0).bind fun t132 => (if t132 = true then ((spec_orDir.f a0_1).bind fun t133 => (if t133 = true then (if a0_0 = a0_1 then (some false) else ((spec_orOpposite.f a0_1).bind fun t134 => (some (a0_0 != t134)))) else (some false))) else (some false))

def spec_orGood.e (k : Nat) : Refl.Ent G := ⟨107, [(.agg [li, li])], .one (.c .bool), fun x => spec_orGood.f x.1 x.2⟩
theorem spec_orGood.ok (k : Nat) : Refl.EntOK Tryz.prog (spec_orGood.e k) := Refl.ent_ok 1000000 k GC (fun k => [spec_orDir.e k, spec_orOpposite.e k]) (fun k => ⟨spec_orDir.ok k, spec_orOpposite.ok k, trivial⟩) Tryz.func107 (by kernel_rfl) [] (ps := []) (by kernel_rfl) trivial (fun x => by kernel_rfl)

/-! ### spec_plGood: function 108 -/

def spec_plGood.f (a0_0 : Int) (a0_1 : Int) (a0_2 : Bool) : Option (Bool) := (spec_l1In.f a0_0 0 9).bind fun t136 => (if t136 = true then ((spec_l1In.f a0_1 (-1) 1).bind fun t137 => (if t137 = true then (if a0_0 > 0 then (some true) else (some (!a0_2))) else (some false))) else (some false))

def spec_plGood.e (k : Nat) : Refl.Ent G := ⟨108, [(.agg [li, li, .bool])], .one (.c .bool), fun x => spec_plGood.f x.1 x.2.1 x.2.2⟩
theorem spec_plGood.ok (k : Nat) : Refl.EntOK Tryz.prog (spec_plGood.e k) := Refl.ent_ok 1000000 k GC (fun k => [spec_l1In.e k]) (fun k => ⟨spec_l1In.ok k, trivial⟩) Tryz.func108 (by kernel_rfl) [] (ps := []) (by kernel_rfl) trivial (fun x => by kernel_rfl)

/-! ### spec_mvLetters: function 210 -/

def spec_mvLetters.f  : Option (ByteArray) := some (⟨#[117, 100, 108, 114, 102, 98]⟩ : ByteArray)

def spec_mvLetters.e (k : Nat) : Refl.Ent G := ⟨210, [], .one (.c .str), fun _ => spec_mvLetters.f ⟩
theorem spec_mvLetters.ok (k : Nat) : Refl.EntOK Tryz.prog (spec_mvLetters.e k) := Refl.ent_ok 1000000 k GC (fun k => []) (fun k => trivial) Tryz.func210 (by kernel_rfl) [] (ps := []) (by kernel_rfl) trivial (fun x => by kernel_rfl)

/-! ### spec_mvIndex: function 189 -/

def spec_mvIndex.l0 : Nat → Int → Int → Option (Int)
  | 0, _, _ => none
  | k + 1, x0, x3 => (spec_mvLetters.f).bind fun t138 => (if x3 < (t138.size : Int) then ((spec_mvLetters.f).bind fun t139 => (if 0 ≤ x3 then (if x3 < (t139.size : Int) then (if (bt t139 x3) = x0 then (some x3) else (spec_mvIndex.l0 k x0 (wrap64 (x3 + 1)))) else (none)) else (none))) else (some (-1)))

def spec_mvIndex.f (k : Nat) (a0 : Int) : Option (Int) := spec_mvIndex.l0 k a0 0

theorem spec_mvIndex.mono_l : ∀ k, (∀ y0 y1, LeO (spec_mvIndex.l0 k y0 y1) (spec_mvIndex.l0 (k + 1) y0 y1))
  | 0 => fun _ _ r h => by simp [spec_mvIndex.l0] at h
  | k + 1 => by
    have ih0 := spec_mvIndex.mono_l k
    · intro y0 y1
      unfold spec_mvIndex.l0
      repeat' first
      | (with_reducible exact ih0 _ _)
      | (with_reducible exact LeO.refl _)
      | (with_reducible exact LeO.none _)
      | (with_reducible refine LeO.ite ?_ ?_)
      | (with_reducible refine LeO.bind ?_ (fun _ => ?_))
      | exact ih0 _ _
      | exact LeO.none _
      | refine LeO.ite ?_ ?_
      | refine LeO.bind ?_ (fun _ => ?_)

theorem spec_mvIndex.mono : ∀ a0 k, LeO (spec_mvIndex.f k a0) (spec_mvIndex.f (k + 1) a0) := by
  intro a0 k
  have ih0 := spec_mvIndex.mono_l k
  unfold spec_mvIndex.f
  repeat' first
      | (with_reducible exact ih0 _ _)
      | (with_reducible exact LeO.refl _)
      | (with_reducible exact LeO.none _)
      | (with_reducible refine LeO.ite ?_ ?_)
      | (with_reducible refine LeO.bind ?_ (fun _ => ?_))
      | exact ih0 _ _
      | exact LeO.none _
      | refine LeO.ite ?_ ?_
      | refine LeO.bind ?_ (fun _ => ?_)

def spec_mvIndex.e (k : Nat) : Refl.Ent G := ⟨189, [(.c (.int .u8))], .one (.c li), fun x => spec_mvIndex.f k x⟩
def spec_mvIndex.pl0 : Refl.Pn G (Refl.PT G (spec_mvIndex.e 0).ol) := ⟨true, 0, ⟨[(0, .v (.c (.int .u8))), (3, .v (.c li)), (2, .k (Value.int IntKind.i64 0))], []⟩, fun k x => spec_mvIndex.l0 k x.1 x.2⟩
theorem spec_mvIndex.ok (k : Nat) : Refl.EntOK Tryz.prog (spec_mvIndex.e k) := Refl.ent_ok 1000000 k GC (fun k => [spec_mvLetters.e k]) (fun k => ⟨spec_mvLetters.ok k, trivial⟩) Tryz.func189 (by kernel_rfl) [spec_mvIndex.pl0] (ps := [spec_mvIndex.pl0]) (by kernel_rfl) ⟨⟨fun x => by kernel_rfl, fun k x => by kernel_rfl⟩, trivial⟩ (fun x => by kernel_rfl)

/-! ### spec_mvSteps: function 155 -/

def spec_mvSteps.l0 : Nat → ByteArray → Int → Option (Bool)
  | 0, _, _ => none
  | k + 1, x0, x3 => if x3 < (x0.size : Int) then (if 0 ≤ x3 then (if x3 < (x0.size : Int) then ((spec_mvIndex.f k (bt x0 x3)).bind fun t140 => (if t140 < 0 then (some false) else (spec_mvSteps.l0 k x0 (wrap64 (x3 + 1))))) else (none)) else (none)) else (some true)

def spec_mvSteps.f (k : Nat) (a0 : ByteArray) : Option (Bool) := spec_mvSteps.l0 k a0 0

theorem spec_mvSteps.mono_l : ∀ k, (∀ y0 y1, LeO (spec_mvSteps.l0 k y0 y1) (spec_mvSteps.l0 (k + 1) y0 y1))
  | 0 => fun _ _ r h => by simp [spec_mvSteps.l0] at h
  | k + 1 => by
    have ih0 := spec_mvSteps.mono_l k
    · intro y0 y1
      unfold spec_mvSteps.l0
      repeat' first
      | (with_reducible exact ih0 _ _)
      | (with_reducible exact spec_mvIndex.mono _ _)
      | (with_reducible exact LeO.refl _)
      | (with_reducible exact LeO.none _)
      | (with_reducible refine LeO.ite ?_ ?_)
      | (with_reducible refine LeO.bind ?_ (fun _ => ?_))
      | exact ih0 _ _
      | exact spec_mvIndex.mono _ _
      | exact LeO.none _
      | refine LeO.ite ?_ ?_
      | refine LeO.bind ?_ (fun _ => ?_)

theorem spec_mvSteps.mono : ∀ a0 k, LeO (spec_mvSteps.f k a0) (spec_mvSteps.f (k + 1) a0) := by
  intro a0 k
  have ih0 := spec_mvSteps.mono_l k
  unfold spec_mvSteps.f
  repeat' first
      | (with_reducible exact ih0 _ _)
      | (with_reducible exact spec_mvIndex.mono _ _)
      | (with_reducible exact LeO.refl _)
      | (with_reducible exact LeO.none _)
      | (with_reducible refine LeO.ite ?_ ?_)
      | (with_reducible refine LeO.bind ?_ (fun _ => ?_))
      | exact ih0 _ _
      | exact spec_mvIndex.mono _ _
      | exact LeO.none _
      | refine LeO.ite ?_ ?_
      | refine LeO.bind ?_ (fun _ => ?_)

def spec_mvSteps.e (k : Nat) : Refl.Ent G := ⟨155, [(.c .str)], .one (.c .bool), fun x => spec_mvSteps.f k x⟩
def spec_mvSteps.pl0 : Refl.Pn G (Refl.PT G (spec_mvSteps.e 0).ol) := ⟨true, 0, ⟨[(0, .v (.c .str)), (3, .v (.c li)), (2, .k (Value.bool false))], []⟩, fun k x => spec_mvSteps.l0 k x.1 x.2⟩
theorem spec_mvSteps.ok (k : Nat) : Refl.EntOK Tryz.prog (spec_mvSteps.e k) := Refl.ent_ok 1000000 k GC (fun k => [spec_mvIndex.e k]) (fun k => ⟨spec_mvIndex.ok k, trivial⟩) Tryz.func155 (by kernel_rfl) [spec_mvSteps.pl0] (ps := [spec_mvSteps.pl0]) (by kernel_rfl) ⟨⟨fun x => by kernel_rfl, fun k x => by kernel_rfl⟩, trivial⟩ (fun x => by kernel_rfl)

/-! ### spec_mvGood: function 109 -/

def spec_mvGood.f (k : Nat) (a0_0 : ByteArray) (a0_1 : Int) : Option (Bool) := if (a0_0.size : Int) ≤ 6 then ((spec_mvSteps.f k a0_0).bind fun t142 => (if t142 = true then ((spec_l1In.f a0_1 1 3).bind fun t143 => (if t143 = true then (if a0_0.toList = ([] : List UInt8) then (some (a0_1 == 1)) else (some true)) else (some false))) else (some false))) else (some false)

theorem spec_mvGood.mono : ∀ a0 a1 k, LeO (spec_mvGood.f k a0 a1) (spec_mvGood.f (k + 1) a0 a1) := by
  intro a0 a1 k
  unfold spec_mvGood.f
  repeat' first
      | (with_reducible exact spec_mvSteps.mono _ _)
      | (with_reducible exact LeO.refl _)
      | (with_reducible exact LeO.none _)
      | (with_reducible refine LeO.ite ?_ ?_)
      | (with_reducible refine LeO.bind ?_ (fun _ => ?_))
      | exact spec_mvSteps.mono _ _
      | exact LeO.none _
      | refine LeO.ite ?_ ?_
      | refine LeO.bind ?_ (fun _ => ?_)

def spec_mvGood.e (k : Nat) : Refl.Ent G := ⟨109, [(.agg [.str, li])], .one (.c .bool), fun x => spec_mvGood.f k x.1 x.2⟩
theorem spec_mvGood.ok (k : Nat) : Refl.EntOK Tryz.prog (spec_mvGood.e k) := Refl.ent_ok 1000000 k GC (fun k => [spec_mvSteps.e k, spec_l1In.e k]) (fun k => ⟨spec_mvSteps.ok k, spec_l1In.ok k, trivial⟩) Tryz.func109 (by kernel_rfl) [] (ps := []) (by kernel_rfl) trivial (fun x => by kernel_rfl)

/-! ### spec_shParse: function 80 -/

mutual
def spec_shParse.j0 : Nat → ByteArray → Bool → Option (Int × Int × Int × Int × Int × Bool × Bool)
  | 0, _, _ => none
  | k + 1, x0, x20 => if x20 = true then (some (0, 0, 0, 0, 0, false, false)) else (spec_shParse.l0 k x0 ([] : List Int) 0)
def spec_shParse.l0 : Nat → ByteArray → List Int → Int → Option (Int × Int × Int × Int × Int × Bool × Bool)
  | 0, _, _, _ => none
  | k + 1, x0, x4, x5 => if x5 < 5 then (if 0 ≤ x5 then (if x5 < (x0.size : Int) then (if x4.length < 17592186044416 then (spec_shParse.l0 k x0 (x4 ++ [wrap64 ((wrap64 (bt x0 x5)) - 48)]) (wrap64 (x5 + 1))) else (none)) else (none)) else (none)) else (if 0 < (x4.length : Int) then (if 1 < (x4.length : Int) then (if 2 < (x4.length : Int) then (if 3 < (x4.length : Int) then (if 4 < (x4.length : Int) then ((spec_shGood.f k (rd x4 0) (rd x4 1) (rd x4 2) (rd x4 3) (rd x4 4) ((x0.size : Int) == 6)).bind fun t160 => (if t160 = true then (some (rd x4 0, rd x4 1, rd x4 2, rd x4 3, rd x4 4, ((x0.size : Int) == 6), true)) else (some (0, 0, 0, 0, 0, false, false)))) else (none)) else (none)) else (none)) else (none)) else (none))
end

def spec_shParse.f (k : Nat) (a0 : ByteArray) : Option (Int × Int × Int × Int × Int × Bool × Bool) := (spec_l1In.f (a0.size : Int) 5 6).bind fun t150 => (if t150 = true then (if (a0.size : Int) = 6 then (if 5 < (a0.size : Int) then (spec_shParse.j0 k a0 ((bt a0 5) != 115)) else (none)) else (spec_shParse.j0 k a0 false)) else (spec_shParse.j0 k a0 true))

theorem spec_shParse.mono_l : ∀ k, (∀ y0 y1, LeO (spec_shParse.j0 k y0 y1) (spec_shParse.j0 (k + 1) y0 y1)) ∧ (∀ y0 y1 y2, LeO (spec_shParse.l0 k y0 y1 y2) (spec_shParse.l0 (k + 1) y0 y1 y2))
  | 0 => ⟨fun _ _ r h => by simp [spec_shParse.j0] at h, fun _ _ _ r h => by simp [spec_shParse.l0] at h⟩
  | k + 1 => by
    obtain ⟨ih0, ih1⟩ := spec_shParse.mono_l k
    refine ⟨?_, ?_⟩
    · intro y0 y1
      unfold spec_shParse.j0
      repeat' first
      | (with_reducible exact ih0 _ _)
      | (with_reducible exact ih1 _ _ _)
      | (with_reducible exact spec_shGood.mono _ _ _ _ _ _ _)
      | (with_reducible exact LeO.refl _)
      | (with_reducible exact LeO.none _)
      | (with_reducible refine LeO.ite ?_ ?_)
      | (with_reducible refine LeO.bind ?_ (fun _ => ?_))
      | exact ih0 _ _
      | exact ih1 _ _ _
      | exact spec_shGood.mono _ _ _ _ _ _ _
      | exact LeO.none _
      | refine LeO.ite ?_ ?_
      | refine LeO.bind ?_ (fun _ => ?_)
    · intro y0 y1 y2
      unfold spec_shParse.l0
      repeat' first
      | (with_reducible exact ih0 _ _)
      | (with_reducible exact ih1 _ _ _)
      | (with_reducible exact spec_shGood.mono _ _ _ _ _ _ _)
      | (with_reducible exact LeO.refl _)
      | (with_reducible exact LeO.none _)
      | (with_reducible refine LeO.ite ?_ ?_)
      | (with_reducible refine LeO.bind ?_ (fun _ => ?_))
      | exact ih0 _ _
      | exact ih1 _ _ _
      | exact spec_shGood.mono _ _ _ _ _ _ _
      | exact LeO.none _
      | refine LeO.ite ?_ ?_
      | refine LeO.bind ?_ (fun _ => ?_)

theorem spec_shParse.mono : ∀ a0 k, LeO (spec_shParse.f k a0) (spec_shParse.f (k + 1) a0) := by
  intro a0 k
  obtain ⟨ih0, ih1⟩ := spec_shParse.mono_l k
  unfold spec_shParse.f
  repeat' first
      | (with_reducible exact ih0 _ _)
      | (with_reducible exact ih1 _ _ _)
      | (with_reducible exact spec_shGood.mono _ _ _ _ _ _ _)
      | (with_reducible exact LeO.refl _)
      | (with_reducible exact LeO.none _)
      | (with_reducible refine LeO.ite ?_ ?_)
      | (with_reducible refine LeO.bind ?_ (fun _ => ?_))
      | exact ih0 _ _
      | exact ih1 _ _ _
      | exact spec_shGood.mono _ _ _ _ _ _ _
      | exact LeO.none _
      | refine LeO.ite ?_ ?_
      | refine LeO.bind ?_ (fun _ => ?_)

def spec_shParse.e (k : Nat) : Refl.Ent G := ⟨80, [(.c .str)], .tup [(.agg [li, li, li, li, li, .bool]), (.c .bool)], fun x => spec_shParse.f k x⟩
def spec_shParse.pj0 : Refl.Pn G (Refl.PT G (spec_shParse.e 0).ol) := ⟨false, 1000001, ⟨[(0, .v (.c .str)), (20, .v (.c .bool)), (2, .box 2 0), (3, .k (Value.bool false))], [(2, 23, gL0)]⟩, fun k x => spec_shParse.j0 k x.1 x.2⟩
def spec_shParse.pl0 : Refl.Pn G (Refl.PT G (spec_shParse.e 0).ol) := ⟨true, 0, ⟨[(0, .v (.c .str)), (4, .v (.c (.row 3 true))), (5, .v (.c li)), (2, .box 2 0), (3, .k (Value.bool false))], [(2, 23, gL0)]⟩, fun k x => spec_shParse.l0 k x.1 x.2.1 x.2.2⟩
theorem spec_shParse.ok (k : Nat) : Refl.EntOK Tryz.prog (spec_shParse.e k) := Refl.ent_ok 1000000 k GC (fun k => [spec_l1In.e k, spec_shGood.e k]) (fun k => ⟨spec_l1In.ok k, spec_shGood.ok k, trivial⟩) Tryz.func80 (by kernel_rfl) [spec_shParse.pj0, spec_shParse.pl0] (ps := [spec_shParse.pj0, spec_shParse.pl0]) (by kernel_rfl) ⟨⟨fun x => by kernel_rfl, fun k x => by kernel_rfl⟩, ⟨fun x => by kernel_rfl, fun k x => by kernel_rfl⟩, trivial⟩ (fun x => by kernel_rfl)

/-! ### impl_Shape_bends: function 113 -/

def impl_Shape_bends.f (a0_0 : Int) (a0_1 : Int) (a0_2 : Int) (a0_3 : Int) (a0_4 : Int) (a0_5 : Bool) : Option (List Int) := some (([a0_1, a0_2, a0_3, a0_4] : List Int))

def impl_Shape_bends.e (k : Nat) : Refl.Ent G := ⟨113, [(.agg [li, li, li, li, li, .bool])], .one (.c (.row 3 true)), fun x => impl_Shape_bends.f x.1 x.2.1 x.2.2.1 x.2.2.2.1 x.2.2.2.2.1 x.2.2.2.2.2⟩
theorem impl_Shape_bends.ok (k : Nat) : Refl.EntOK Tryz.prog (impl_Shape_bends.e k) := Refl.ent_ok 1000000 k GC (fun k => []) (fun k => trivial) Tryz.func113 (by kernel_rfl) [] (ps := []) (by kernel_rfl) trivial (fun x => by kernel_rfl)

/-! ### impl_within: function 63 -/

-- JOINS  | BOXES 
def impl_within.f (a0 : Int) (a1 : Int) (a2 : Int) : Option (Bool) := if a0 ≥ a1 then (some (decide (a0 ≤ a2))) else (some false)
set_option maxHeartbeats 8000000 in
set_option maxRecDepth 100000 in
theorem impl_within.calls (a0 : Int) (a1 : Int) (a2 : Int) (r : Bool) (w : World) (h : impl_within.f a0 a1 a2 = some r) :
    Calls Tryz.prog 63 #[.int .i64 a0, .int .i64 a1, .int .i64 a2] w fun e w' => e = .returned (.bool r) ∧ Drawn0 w w' := by
  have H : (if a0 ≥ a1 then (some (decide (a0 ≤ a2))) else (some false)) = some r := h
  clear h
  by_cases c4 : a0 ≥ a1
  · rw [if_pos c4] at H
    have c4b0 : decide (a1 ≤ a0) = true := decide_eq_true c4
    clear c4
    obtain rfl := Option.some.inj H
    go_enter Tryz.func63, Tryz.ntmps63
    go_wp2
    go_ret
    exact ⟨by first | rfl | (simp; done) | (simp [*]; done), by repeat (first | exact Drawn0.refl _ | apply Drawn0.step)⟩
  · rw [if_neg c4] at H
    have c4b0 : decide (a1 ≤ a0) = false := decide_eq_false c4
    clear c4
    obtain rfl := Option.some.inj H
    go_enter Tryz.func63, Tryz.ntmps63
    go_wp2
    go_ret
    exact ⟨by first | rfl | (simp; done) | (simp [*]; done), by repeat (first | exact Drawn0.refl _ | apply Drawn0.step)⟩

def impl_within.e (k : Nat) : Refl.Ent G := ⟨63, [(.c li), (.c li), (.c li)], .one (.c .bool), fun x => impl_within.f x.1 x.2.1 x.2.2⟩
theorem impl_within.ok (k : Nat) : Refl.EntOK Tryz.prog (impl_within.e k) := Refl.ent_ok 1000000 k GC (fun k => []) (fun k => trivial) Tryz.func63 (by kernel_rfl) [] (ps := []) (by kernel_rfl) trivial (fun x => by kernel_rfl)

/-! ### impl_IsPlace: function 24 -/

def impl_IsPlace.f (a0_0 : Int) (a0_1 : Int) (a0_2 : Bool) : Option (Bool) := (impl_within.f a0_0 0 9).bind fun t301 => (if t301 = true then ((impl_within.f a0_1 (-1) 1).bind fun t302 => (if t302 = true then (if a0_2 = true then (some (!(a0_0 == 0))) else (some (!false))) else (some false))) else (some false))

def impl_IsPlace.e (k : Nat) : Refl.Ent G := ⟨24, [(.agg [li, li, .bool])], .one (.c .bool), fun x => impl_IsPlace.f x.1 x.2.1 x.2.2⟩
theorem impl_IsPlace.ok (k : Nat) : Refl.EntOK Tryz.prog (impl_IsPlace.e k) := Refl.ent_ok 1000000 k GC (fun k => [impl_within.e k]) (fun k => ⟨impl_within.ok k, trivial⟩) Tryz.func24 (by kernel_rfl) [] (ps := []) (by kernel_rfl) trivial (fun x => by kernel_rfl)

/-! ### impl_allWithin: function 112 -/

def awOut (a1 a2 x : Int) : Bool := !decide (a1 ≤ x ∧ x ≤ a2)
/-- The first place with such a number, or -1. -/

def awIdx (a1 a2 : Int) : Nat → List Int → Int
  | _, [] => -1
  | i, x :: xs => if awOut a1 a2 x = true then (i : Int) else awIdx a1 a2 (i + 1) xs

def awAll (a1 a2 : Int) (l : List Int) : Bool := l.all fun x => decide (a1 ≤ x ∧ x ≤ a2)

theorem awIdx_all (a1 a2 : Int) : ∀ (l : List Int) (i : Nat), (!decide (0 ≤ awIdx a1 a2 i l)) = awAll a1 a2 l
  | [], i => by simp [awIdx, awAll]
  | x :: xs, i => by
    unfold awIdx
    by_cases h : awOut a1 a2 x = true
    · rw [if_pos h]
      unfold awOut at h
      simp only [Bool.not_eq_true'] at h
      simp only [awAll, List.all_cons, h, Bool.false_and]
      simp
    · rw [if_neg h, awIdx_all a1 a2 xs (i + 1)]
      unfold awOut at h
      simp only [Bool.not_eq_true', Bool.not_eq_false] at h
      simp only [awAll, List.all_cons, h, Bool.true_and]

theorem aw_within (a b c : Int) : impl_within.f a b c = some (decide (b ≤ a ∧ a ≤ c)) := by
  unfold impl_within.f
  by_cases h : b ≤ a
  · rw [if_pos h]; simp [h]
  · rw [if_neg h]; simp [h]

def AWFrom (a1 a2 : Int) (l : List Int) (i : Nat) (r : Int) : Prop := i ≤ l.length ∧ awIdx a1 a2 i (l.drop i) = r

theorem aw_step {a1 a2 : Int} {l : List Int} {i : Nat} {r : Int} (h : AWFrom a1 a2 l i r) (hlt : i < l.length) : (awOut a1 a2 (rd l (i : Int)) = false → AWFrom a1 a2 l (i + 1) r) ∧ (awOut a1 a2 (rd l (i : Int)) = true → r = (i : Int)) := by
  obtain ⟨_, h⟩ := h
  rw [List.drop_eq_getElem_cons hlt] at h
  unfold awIdx at h
  have e : rd l (i : Int) = l[i] := by
    unfold rd
    rw [List.getD_eq_getElem?_getD]
    simp [hlt]
  rw [e]
  refine ⟨fun e => ?_, fun e => ?_⟩
  · rw [e, if_neg (by decide)] at h; exact ⟨by omega, h⟩
  · rw [if_pos e] at h; exact h.symm

theorem aw_end {a1 a2 : Int} {l : List Int} {i : Nat} {r : Int} (h : AWFrom a1 a2 l i r) (hge : ¬ i < l.length) : r = -1 := by
  obtain ⟨hi, h⟩ := h
  rw [List.drop_eq_nil_of_le (by omega)] at h
  exact h.symm

def impl_allWithin.f (l0 : List Int) (a1 a2 : Int) : Option Bool := if l0.length ≤ 1000 then some (awAll a1 a2 l0) else none

def impl_allWithin.e (k : Nat) : Refl.Ent G := ⟨112, [(.c (.row 3 false)), (.c li), (.c li)], .one (.c .bool), fun x => impl_allWithin.f x.1 x.2.1 x.2.2⟩
def aw1.f (x a b : Int) : Option Bool := (impl_within.f x a b).bind fun t => some (!t)
def aw1.e (k : Nat) : Refl.Ent G := ⟨158, [.c li, .ref [li], .ref [li]], .one (.c .bool), fun x => aw1.f x.1 x.2.1 x.2.2⟩
theorem aw1.ok (k : Nat) : Refl.EntOK Tryz.prog (aw1.e k) := Refl.ent_ok 1000000 k GC (fun k => [impl_within.e k]) (fun k => ⟨impl_within.ok k, trivial⟩) Tryz.func158 (by kernel_rfl) [] (ps := []) (by kernel_rfl) trivial (fun x => by kernel_rfl)
def aw2.l0 : Nat → List Int → Int → Int → Int → Int → Option Int
  | 0, _, _, _, _, _ => none
  | k + 1, l, a, b, n, i => if i < n then (if 0 ≤ i then (if i < (l.length : Int) then ((aw1.f (rd l i) a b).bind fun t => if t = true then (some i) else (aw2.l0 k l a b n (wrap64 (i + 1)))) else (none)) else (none)) else (some (-1))
def aw2.f (k : Nat) (l : List Int) (a b : Int) : Option Int := aw2.l0 k l a b (l.length : Int) 0
def aw2.e (k : Nat) : Refl.Ent G := ⟨190, [.c (.row 3 false), .clo 158 [[li], [li]]], .one (.c li), fun x => aw2.f k x.1 x.2.1 x.2.2⟩
def aw2.p : Refl.Pn G (Refl.PT G (aw2.e 0).ol) := ⟨true, 0, ⟨[(0, .v (.c (.row 3 false))), (1, .v (.clo 158 [[li], [li]])), (7, .v (.c li)), (8, .v (.c li)), (4, .k (.int .i64 0))], []⟩, fun k x => aw2.l0 k x.1 x.2.1 x.2.2.1 x.2.2.2.1 x.2.2.2.2⟩
theorem aw2.ok (k : Nat) : Refl.EntOK Tryz.prog (aw2.e k) := Refl.ent_ok 1000000 k GC (fun k => [aw1.e k]) (fun k => ⟨aw1.ok k, trivial⟩) Tryz.func190 (by kernel_rfl) [aw2.p] (ps := [aw2.p]) (by kernel_rfl) ⟨⟨fun x => by kernel_rfl, fun k x => by kernel_rfl⟩, trivial⟩ (fun x => by kernel_rfl)
def aw3.f (k : Nat) (l : List Int) (a b : Int) : Option Bool := (aw2.f k l a b).bind fun t => some (decide (t ≥ 0))
def aw3.e (k : Nat) : Refl.Ent G := ⟨157, [.c (.row 3 false), .clo 158 [[li], [li]]], .one (.c .bool), fun x => aw3.f k x.1 x.2.1 x.2.2⟩
theorem aw3.ok (k : Nat) : Refl.EntOK Tryz.prog (aw3.e k) := Refl.ent_ok 1000000 k GC (fun k => [aw2.e k]) (fun k => ⟨aw2.ok k, trivial⟩) Tryz.func157 (by kernel_rfl) [] (ps := []) (by kernel_rfl) trivial (fun x => by kernel_rfl)
def aw0.f (k : Nat) (l : List Int) (a b : Int) : Option Bool := (aw3.f k l a b).bind fun t => some (!t)
def aw0.e (k : Nat) : Refl.Ent G := ⟨112, [.c (.row 3 false), .c li, .c li], .one (.c .bool), fun x => aw0.f k x.1 x.2.1 x.2.2⟩
theorem aw0.ok (k : Nat) : Refl.EntOK Tryz.prog (aw0.e k) := Refl.ent_ok 1000000 k GC (fun k => [aw3.e k]) (fun k => ⟨aw3.ok k, trivial⟩) Tryz.func112 (by kernel_rfl) [] (ps := []) (by kernel_rfl) trivial (fun x => by kernel_rfl)
theorem aw1_eq (x a b : Int) : aw1.f x a b = some (awOut a b x) := by
  unfold aw1.f awOut
  rw [aw_within]
  rfl
theorem aw2_eq (l : List Int) (a b : Int) (hl : l.length ≤ 1000) : ∀ (k i : Nat), l.length - i < k → i ≤ l.length → aw2.l0 k l a b (l.length : Int) (i : Int) = some (awIdx a b i (l.drop i))
  | 0, i, h, _ => by omega
  | k + 1, i, h, hi => by
    unfold aw2.l0
    by_cases hlt : i < l.length
    · have hd := List.drop_eq_getElem_cons hlt
      rw [if_pos (by omega), if_pos (by omega), if_pos (by omega), aw1_eq]
      have e : rd l (i : Int) = l[i] := by
        unfold rd
        rw [List.getD_eq_getElem?_getD]
        simp [hlt]
      rw [e, hd]
      simp only [Option.bind_some, awIdx]
      by_cases ho : awOut a b l[i] = true
      · rw [if_pos ho, if_pos ho]
      · rw [if_neg ho, if_neg ho, show wrap64 ((i : Int) + 1) = ((i + 1 : Nat) : Int) from by unfold wrap64; omega]
        exact aw2_eq l a b hl k (i + 1) (by omega) (by omega)
    · rw [if_neg (by omega), List.drop_eq_nil_of_le (by omega)]
      rfl
theorem impl_allWithin.ok (k : Nat) : Refl.EntOK Tryz.prog (impl_allWithin.e k) := (aw0.ok 1002).weaken _ fun x y h => by
  obtain ⟨l, a, b⟩ := x
  have h : impl_allWithin.f l a b = some y := h
  show aw0.f 1002 l a b = some y
  unfold impl_allWithin.f at h
  split at h
  · rename_i hl
    have := aw2_eq l a b hl 1002 0 (by omega) (by omega)
    unfold aw0.f aw3.f aw2.f
    rw [show ((0 : Nat) : Int) = 0 from rfl] at this
    rw [this, ← h, ← awIdx_all a b l 0]
    rfl
  · cases h

/-! ### impl_Shape_maySpread: function 114 -/

def impl_Shape_maySpread.f (a0_0 : Int) (a0_1 : Int) (a0_2 : Int) (a0_3 : Int) (a0_4 : Int) (a0_5 : Bool) : Option (Bool) := if a0_2 = 0 then (if a0_1 = 0 then (some true) else (if a0_3 = 0 then (some true) else (if a0_3 = 0 then (some (a0_4 == 0)) else (some false)))) else (if a0_3 = 0 then (some (a0_4 == 0)) else (some false))

def impl_Shape_maySpread.e (k : Nat) : Refl.Ent G := ⟨114, [(.agg [li, li, li, li, li, .bool])], .one (.c .bool), fun x => impl_Shape_maySpread.f x.1 x.2.1 x.2.2.1 x.2.2.2.1 x.2.2.2.2.1 x.2.2.2.2.2⟩
theorem impl_Shape_maySpread.ok (k : Nat) : Refl.EntOK Tryz.prog (impl_Shape_maySpread.e k) := Refl.ent_ok 1000000 k GC (fun k => []) (fun k => trivial) Tryz.func114 (by kernel_rfl) [] (ps := []) (by kernel_rfl) trivial (fun x => by kernel_rfl)

/-! ### impl_IsShape: function 60 -/

def impl_IsShape.f (a0_0 : Int) (a0_1 : Int) (a0_2 : Int) (a0_3 : Int) (a0_4 : Int) (a0_5 : Bool) : Option (Bool) := (some (([a0_0] : List Int) : List Int)).bind fun y305 => ((impl_Shape_bends.f a0_0 a0_1 a0_2 a0_3 a0_4 a0_5).bind fun t308 => (if Refl.appLen y305 t308 < 17592186044416 then ((impl_allWithin.f (y305 ++ t308) 0 2).bind fun t314 => (if t314 = true then (if a0_5 = true then ((impl_Shape_maySpread.f a0_0 a0_1 a0_2 a0_3 a0_4 a0_5).bind fun t315 => (some t315)) else (some true)) else (some false))) else (none)))

def impl_IsShape.e (k : Nat) : Refl.Ent G := ⟨60, [(.agg [li, li, li, li, li, .bool])], .one (.c .bool), fun x => impl_IsShape.f x.1 x.2.1 x.2.2.1 x.2.2.2.1 x.2.2.2.2.1 x.2.2.2.2.2⟩
theorem impl_IsShape.ok (k : Nat) : Refl.EntOK Tryz.prog (impl_IsShape.e k) := Refl.ent_ok 1000000 k GC (fun k => [impl_Shape_bends.e k, impl_allWithin.e k, impl_Shape_maySpread.e k]) (fun k => ⟨impl_Shape_bends.ok k, impl_allWithin.ok k, impl_Shape_maySpread.ok k, trivial⟩) Tryz.func60 (by kernel_rfl) [] (ps := []) (by kernel_rfl) trivial (fun x => by kernel_rfl)

/-! ### impl_IsOrient: function 61 -/

def impl_IsOrient.f (a0_0 : Int) (a0_1 : Int) : Option (Bool) := (impl_within.f a0_0 0 5).bind fun t317 => (if t317 = true then ((impl_within.f a0_1 0 5).bind fun t318 => (if t318 = true then (some ((wrap64 (Int.tdiv a0_0 2)) != (wrap64 (Int.tdiv a0_1 2)))) else (some false))) else (some false))

def impl_IsOrient.e (k : Nat) : Refl.Ent G := ⟨61, [(.agg [li, li])], .one (.c .bool), fun x => impl_IsOrient.f x.1 x.2⟩
theorem impl_IsOrient.ok (k : Nat) : Refl.EntOK Tryz.prog (impl_IsOrient.e k) := Refl.ent_ok 1000000 k GC (fun k => [impl_within.e k]) (fun k => ⟨impl_within.ok k, trivial⟩) Tryz.func61 (by kernel_rfl) [] (ps := []) (by kernel_rfl) trivial (fun x => by kernel_rfl)

/-! ### strings_IndexByte: function 139 -/

def strings_IndexByte.f (a0 : ByteArray) (a1 : Int) : Option Int := some (Lib.indexByte a0.data.toList a1.toNat.toUInt8)
theorem strings_IndexByte.calls (a0 : ByteArray) (a1 : Int) (r : Int) (w : World) (h : strings_IndexByte.f a0 a1 = some r) :
    Calls Tryz.prog 139 #[.string a0, .int .u8 a1] w fun e w' => e = .returned (.int .i64 r) ∧ Drawn0 w w' := by
  obtain rfl := Option.some.inj h
  exact (Tryz.strings_IndexByte a0 a1 w).mono fun e w' ⟨he, hw⟩ => ⟨he, hw ▸ Drawn0.refl _⟩

def strings_IndexByte.e (k : Nat) : Refl.Ent G := ⟨139, [(.c .str), (.c (.int .u8))], .one (.c li), fun x => strings_IndexByte.f x.1 x.2⟩
theorem strings_IndexByte.ok (k : Nat) : Refl.EntOK Tryz.prog (strings_IndexByte.e k) := Refl.entOK_hand Tryz.func139 (by kernel_rfl) (fun x => by kernel_rfl) (fun y => ⟨by kernel_rfl, by kernel_rfl, by kernel_rfl, by kernel_rfl⟩) (fun x y h w => (strings_IndexByte.calls x.1 x.2 y w h).mono fun e w' hh => ⟨hh.1, hh.2.below⟩)

/-! ### impl_hasOnly: function 115 -/

def impl_hasOnly.l0 : Nat → ByteArray → ByteArray → Int → Int → Option (Bool)
  | 0, _, _, _, _ => none
  | k + 1, x0, x1, x7, x8 => if x8 < x7 then (if 0 ≤ x8 then (if x8 < (x0.size : Int) then ((strings_IndexByte.f x1 (bt x0 x8)).bind fun t319 => (if t319 < 0 then (some false) else (impl_hasOnly.l0 k x0 x1 x7 (wrap64 (x8 + 1))))) else (none)) else (none)) else (some true)

def impl_hasOnly.f (k : Nat) (a0 : ByteArray) (a1 : ByteArray) : Option (Bool) := impl_hasOnly.l0 k a0 a1 (a0.size : Int) 0

theorem impl_hasOnly.mono_l : ∀ k, (∀ y0 y1 y2 y3, LeO (impl_hasOnly.l0 k y0 y1 y2 y3) (impl_hasOnly.l0 (k + 1) y0 y1 y2 y3))
  | 0 => fun _ _ _ _ r h => by simp [impl_hasOnly.l0] at h
  | k + 1 => by
    have ih0 := impl_hasOnly.mono_l k
    · intro y0 y1 y2 y3
      unfold impl_hasOnly.l0
      repeat' first
      | (with_reducible exact ih0 _ _ _ _)
      | (with_reducible exact LeO.refl _)
      | (with_reducible exact LeO.none _)
      | (with_reducible refine LeO.ite ?_ ?_)
      | (with_reducible refine LeO.bind ?_ (fun _ => ?_))
      | exact ih0 _ _ _ _
      | exact LeO.none _
      | refine LeO.ite ?_ ?_
      | refine LeO.bind ?_ (fun _ => ?_)

theorem impl_hasOnly.mono : ∀ a0 a1 k, LeO (impl_hasOnly.f k a0 a1) (impl_hasOnly.f (k + 1) a0 a1) := by
  intro a0 a1 k
  have ih0 := impl_hasOnly.mono_l k
  unfold impl_hasOnly.f
  repeat' first
      | (with_reducible exact ih0 _ _ _ _)
      | (with_reducible exact LeO.refl _)
      | (with_reducible exact LeO.none _)
      | (with_reducible refine LeO.ite ?_ ?_)
      | (with_reducible refine LeO.bind ?_ (fun _ => ?_))
      | exact ih0 _ _ _ _
      | exact LeO.none _
      | refine LeO.ite ?_ ?_
      | refine LeO.bind ?_ (fun _ => ?_)

def impl_hasOnly.e (k : Nat) : Refl.Ent G := ⟨115, [(.c .str), (.c .str)], .one (.c .bool), fun x => impl_hasOnly.f k x.1 x.2⟩
def impl_hasOnly.pl0 : Refl.Pn G (Refl.PT G (impl_hasOnly.e 0).ol) := ⟨true, 0, ⟨[(0, .v (.c .str)), (1, .v (.c .str)), (7, .v (.c li)), (8, .v (.c li)), (4, .k (Value.bool false))], []⟩, fun k x => impl_hasOnly.l0 k x.1 x.2.1 x.2.2.1 x.2.2.2⟩
theorem impl_hasOnly.ok (k : Nat) : Refl.EntOK Tryz.prog (impl_hasOnly.e k) := Refl.ent_ok 1000000 k GC (fun k => [strings_IndexByte.e k]) (fun k => ⟨strings_IndexByte.ok k, trivial⟩) Tryz.func115 (by kernel_rfl) [impl_hasOnly.pl0] (ps := [impl_hasOnly.pl0]) (by kernel_rfl) ⟨⟨fun x => by kernel_rfl, fun k x => by kernel_rfl⟩, trivial⟩ (fun x => by kernel_rfl)

/-! ### impl_IsMove: function 62 -/

def impl_IsMove.f (k : Nat) (a0_0 : ByteArray) (a0_1 : Int) : Option (Bool) := if (a0_0.size : Int) ≤ 6 then ((impl_hasOnly.f k a0_0 (⟨#[117, 100, 108, 114, 102, 98]⟩ : ByteArray)).bind fun t321 => (if t321 = true then ((impl_within.f a0_1 1 3).bind fun t322 => (if t322 = true then (if a0_0.toList = ([] : List UInt8) then (some (a0_1 == 1)) else (some true)) else (some false))) else (some false))) else (some false)

theorem impl_IsMove.mono : ∀ a0 a1 k, LeO (impl_IsMove.f k a0 a1) (impl_IsMove.f (k + 1) a0 a1) := by
  intro a0 a1 k
  unfold impl_IsMove.f
  repeat' first
      | (with_reducible exact impl_hasOnly.mono _ _ _)
      | (with_reducible exact LeO.refl _)
      | (with_reducible exact LeO.none _)
      | (with_reducible refine LeO.ite ?_ ?_)
      | (with_reducible refine LeO.bind ?_ (fun _ => ?_))
      | exact impl_hasOnly.mono _ _ _
      | exact LeO.none _
      | refine LeO.ite ?_ ?_
      | refine LeO.bind ?_ (fun _ => ?_)

def impl_IsMove.e (k : Nat) : Refl.Ent G := ⟨62, [(.agg [.str, li])], .one (.c .bool), fun x => impl_IsMove.f k x.1 x.2⟩
theorem impl_IsMove.ok (k : Nat) : Refl.EntOK Tryz.prog (impl_IsMove.e k) := Refl.ent_ok 1000000 k GC (fun k => [impl_hasOnly.e k, impl_within.e k]) (fun k => ⟨impl_hasOnly.ok k, impl_within.ok k, trivial⟩) Tryz.func62 (by kernel_rfl) [] (ps := []) (by kernel_rfl) trivial (fun x => by kernel_rfl)

/-! ### strconv_Itoa: function 149 -/

/-- The digits, and the pairs of digits, as the library lays them. -/
def itA : ByteArray := ⟨#[48, 49, 50, 51, 52, 53, 54, 55, 56, 57, 97, 98, 99, 100, 101, 102, 103, 104, 105, 106, 107, 108, 109, 110, 111, 112, 113, 114, 115, 116, 117, 118, 119, 120, 121, 122]⟩
def itB : ByteArray := ⟨#[48, 48, 48, 49, 48, 50, 48, 51, 48, 52, 48, 53, 48, 54, 48, 55, 48, 56, 48, 57, 49, 48, 49, 49, 49, 50, 49, 51, 49, 52, 49, 53, 49, 54, 49, 55, 49, 56, 49, 57, 50, 48, 50, 49, 50, 50, 50, 51, 50, 52, 50, 53, 50, 54, 50, 55, 50, 56, 50, 57, 51, 48, 51, 49, 51, 50, 51, 51, 51, 52, 51, 53, 51, 54, 51, 55, 51, 56, 51, 57, 52, 48, 52, 49, 52, 50, 52, 51, 52, 52, 52, 53, 52, 54, 52, 55, 52, 56, 52, 57, 53, 48, 53, 49, 53, 50, 53, 51, 53, 52, 53, 53, 53, 54, 53, 55, 53, 56, 53, 57, 54, 48, 54, 49, 54, 50, 54, 51, 54, 52, 54, 53, 54, 54, 54, 55, 54, 56, 54, 57, 55, 48, 55, 49, 55, 50, 55, 51, 55, 52, 55, 53, 55, 54, 55, 55, 55, 56, 55, 57, 56, 48, 56, 49, 56, 50, 56, 51, 56, 52, 56, 53, 56, 54, 56, 55, 56, 56, 56, 57, 57, 48, 57, 49, 57, 50, 57, 51, 57, 52, 57, 53, 57, 54, 57, 55, 57, 56, 57, 57]⟩
/-- The text of a number below 100. -/
def itT (n : Int) : ByteArray := if n < 10 then itA.extract n.toNat (n + 1).toNat else itB.extract (n * 2).toNat (n * 2 + 2).toNat
set_option maxHeartbeats 4000000 in
set_option maxRecDepth 100000 in
theorem itSmall (n : Int) (w : World) (h0 : 0 ≤ n) (h1 : n < 100) : Calls Tryz.prog 227 #[.int .i64 n] w fun e w' => e = .returned (.string (itT n)) ∧ Drawn0 w w' := by
  have e1 : IntKind.i64.wrap (n + 1) = n + 1 := by simp [IntKind.wrap, IntKind.bits, IntKind.signed]; omega
  have e2 : IntKind.i64.wrap (n * 2) = n * 2 := by simp [IntKind.wrap, IntKind.bits, IntKind.signed]; omega
  have e3 : IntKind.i64.wrap (n * 2 + 2) = n * 2 + 2 := by simp [IntKind.wrap, IntKind.bits, IntKind.signed]; omega
  by_cases h : n < 10
  · have c0 : decide (n < 10) = true := decide_eq_true h
    have c1 : itT n = itA.extract n.toNat (n + 1).toNat := if_pos h
    have b0 : (0 ≤ n) = True := eq_true h0
    have b1 : (n ≤ n + 1) = True := eq_true (by omega)
    have b2 : (n + 1 ≤ 36) = True := eq_true (by omega)
    have b3 : decide (0 ≤ n) = true := decide_eq_true h0
    have b4 : decide (n ≤ n + 1) = true := decide_eq_true (by omega)
    have b5 : decide (n + 1 ≤ 36) = true := decide_eq_true (by omega)
    rw [c1]
    clear h c1 h0 h1
    go_enter Tryz.func227, Tryz.ntmps227
    go_wp2
    go_ret
    exact ⟨by first | rfl | (simp [itA]; done), by repeat (first | exact Drawn0.refl _ | apply Drawn0.step)⟩
  · have c0 : decide (n < 10) = false := decide_eq_false h
    have c1 : itT n = itB.extract (n * 2).toNat (n * 2 + 2).toNat := if_neg h
    have b0 : (0 ≤ n * 2) = True := eq_true (by omega)
    have b1 : (n * 2 ≤ n * 2 + 2) = True := eq_true (by omega)
    have b2 : (n * 2 + 2 ≤ 200) = True := eq_true (by omega)
    have b3 : decide (0 ≤ n * 2) = true := decide_eq_true (by omega)
    have b4 : decide (n * 2 ≤ n * 2 + 2) = true := decide_eq_true (by omega)
    have b5 : decide (n * 2 + 2 ≤ 200) = true := decide_eq_true (by omega)
    rw [c1]
    clear h c1 h0 h1
    go_enter Tryz.func227, Tryz.ntmps227
    go_wp2
    go_ret
    exact ⟨by first | rfl | (simp [itB]; done), by repeat (first | exact Drawn0.refl _ | apply Drawn0.step)⟩
set_option maxHeartbeats 4000000 in
set_option maxRecDepth 100000 in
theorem itFormat (n : Int) (w : World) (h0 : 0 ≤ n) (h1 : n < 100) : Calls Tryz.prog 209 #[.int .i64 n, .int .i64 10] w fun e w' => e = .returned (.string (itT n)) ∧ Drawn0 w w' := by
  have HS := Aside0.mk (fun W => itSmall n W h0 h1)
  have e1 : IntKind.i64.wrap n = n := by simp [IntKind.wrap, IntKind.bits, IntKind.signed]; omega
  have c0 : decide (0 ≤ n) = true := decide_eq_true h0
  have c1 : decide (n < 100) = true := decide_eq_true h1
  clear h0 h1
  go_enter Tryz.func209, Tryz.ntmps209
  go_wp2_with (go_at_call 227; refine (HS.out _).mono ?_; rintro e wq ⟨rfl, ⟨nd, rfl⟩⟩)
  go_ret
  exact ⟨by first | rfl | (simp; done), by repeat (first | exact Drawn0.refl _ | apply Drawn0.step)⟩
set_option maxHeartbeats 4000000 in
set_option maxRecDepth 100000 in
theorem itIn (n : Int) (w : World) (h0 : 0 ≤ n) (h1 : n < 100) : Calls Tryz.prog 188 #[.int .i64 n] w fun e w' => e = .returned (.string (itT n)) ∧ Drawn0 w w' := by
  have HS := Aside0.mk (fun W => itFormat n W h0 h1)
  have e1 : IntKind.i64.wrap n = n := by simp [IntKind.wrap, IntKind.bits, IntKind.signed]; omega
  clear h0 h1
  go_enter Tryz.func188, Tryz.ntmps188
  go_wp2_with (go_at_call 209; refine (HS.out _).mono ?_; rintro e wq ⟨rfl, ⟨nd, rfl⟩⟩)
  go_ret
  exact ⟨by first | rfl | (simp; done), by repeat (first | exact Drawn0.refl _ | apply Drawn0.step)⟩
def strconv_Itoa.f (a0 : Int) : Option ByteArray := if 0 ≤ a0 ∧ a0 < 100 then some (itT a0) else none
set_option maxHeartbeats 4000000 in
set_option maxRecDepth 100000 in
theorem strconv_Itoa.calls (a0 : Int) (r : ByteArray) (w : World) (h : strconv_Itoa.f a0 = some r) : Calls Tryz.prog 149 #[.int .i64 a0] w fun e w' => e = .returned (.string r) ∧ Drawn0 w w' := by
  unfold strconv_Itoa.f at h
  by_cases hn : 0 ≤ a0 ∧ a0 < 100
  · rw [if_pos hn] at h
    obtain rfl := Option.some.inj h
    have HS := Aside0.mk (fun W => itIn a0 W hn.1 hn.2)
    clear h hn
    go_enter Tryz.func149, Tryz.ntmps149
    go_wp2_with (go_at_call 188; refine (HS.out _).mono ?_; rintro e wq ⟨rfl, ⟨nd, rfl⟩⟩)
    go_ret
    exact ⟨by first | rfl | (simp; done), by repeat (first | exact Drawn0.refl _ | apply Drawn0.step)⟩
  · rw [if_neg hn] at h; exact absurd h (by simp)

def strconv_Itoa.e (k : Nat) : Refl.Ent G := ⟨149, [(.c li)], .one (.c .str), fun x => strconv_Itoa.f x⟩
theorem strconv_Itoa.ok (k : Nat) : Refl.EntOK Tryz.prog (strconv_Itoa.e k) := Refl.entOK_hand Tryz.func149 (by kernel_rfl) (fun x => by kernel_rfl) (fun y => ⟨by kernel_rfl, by kernel_rfl, by kernel_rfl, by kernel_rfl⟩) (fun x y h w => (strconv_Itoa.calls x y w h).mono fun e w' hh => ⟨hh.1, hh.2.below⟩)

/-! ### impl_Shape_text: function 98 -/

def impl_Shape_text.l0 : Nat → ByteArray → List Int → Int → Int → Int → Int → Int → Int → Int → Bool → Option (ByteArray)
  | 0, _, _, _, _, _, _, _, _, _, _ => none
  | k + 1, x3, x10, x11, x12, x333000, x333001, x333002, x333003, x333004, x333005 => if x12 < x11 then (if 0 ≤ x12 then (if x12 < (x10.length : Int) then ((strconv_Itoa.f (rd x10 x12)).bind fun t338 => (if x3.size + t338.size ≤ 9223372036854775807 then (impl_Shape_text.l0 k (x3 ++ t338) x10 x11 (wrap64 (x12 + 1)) x333000 x333001 x333002 x333003 x333004 x333005) else (none))) else (none)) else (none)) else (if x333005 = true then (if x3.size + 1 ≤ 9223372036854775807 then (some (x3 ++ (⟨#[115]⟩ : ByteArray))) else (none)) else (some x3))

def impl_Shape_text.f (k : Nat) (a0_0 : Int) (a0_1 : Int) (a0_2 : Int) (a0_3 : Int) (a0_4 : Int) (a0_5 : Bool) : Option (ByteArray) := (strconv_Itoa.f a0_0).bind fun t333 => ((impl_Shape_bends.f a0_0 a0_1 a0_2 a0_3 a0_4 a0_5).bind fun t334 => (impl_Shape_text.l0 k t333 t334 (t334.length : Int) 0 a0_0 a0_1 a0_2 a0_3 a0_4 a0_5))

theorem impl_Shape_text.mono_l : ∀ k, (∀ y0 y1 y2 y3 y4 y5 y6 y7 y8 y9, LeO (impl_Shape_text.l0 k y0 y1 y2 y3 y4 y5 y6 y7 y8 y9) (impl_Shape_text.l0 (k + 1) y0 y1 y2 y3 y4 y5 y6 y7 y8 y9))
  | 0 => fun _ _ _ _ _ _ _ _ _ _ r h => by simp [impl_Shape_text.l0] at h
  | k + 1 => by
    have ih0 := impl_Shape_text.mono_l k
    · intro y0 y1 y2 y3 y4 y5 y6 y7 y8 y9
      unfold impl_Shape_text.l0
      repeat' first
      | (with_reducible exact ih0 _ _ _ _ _ _ _ _ _ _)
      | (with_reducible exact LeO.refl _)
      | (with_reducible exact LeO.none _)
      | (with_reducible refine LeO.ite ?_ ?_)
      | (with_reducible refine LeO.bind ?_ (fun _ => ?_))
      | exact ih0 _ _ _ _ _ _ _ _ _ _
      | exact LeO.none _
      | refine LeO.ite ?_ ?_
      | refine LeO.bind ?_ (fun _ => ?_)

theorem impl_Shape_text.mono : ∀ a0 a1 a2 a3 a4 a5 k, LeO (impl_Shape_text.f k a0 a1 a2 a3 a4 a5) (impl_Shape_text.f (k + 1) a0 a1 a2 a3 a4 a5) := by
  intro a0 a1 a2 a3 a4 a5 k
  have ih0 := impl_Shape_text.mono_l k
  unfold impl_Shape_text.f
  repeat' first
      | (with_reducible exact ih0 _ _ _ _ _ _ _ _ _ _)
      | (with_reducible exact LeO.refl _)
      | (with_reducible exact LeO.none _)
      | (with_reducible refine LeO.ite ?_ ?_)
      | (with_reducible refine LeO.bind ?_ (fun _ => ?_))
      | exact ih0 _ _ _ _ _ _ _ _ _ _
      | exact LeO.none _
      | refine LeO.ite ?_ ?_
      | refine LeO.bind ?_ (fun _ => ?_)

def impl_Shape_text.e (k : Nat) : Refl.Ent G := ⟨98, [(.agg [li, li, li, li, li, .bool])], .one (.c .str), fun x => impl_Shape_text.f k x.1 x.2.1 x.2.2.1 x.2.2.2.1 x.2.2.2.2.1 x.2.2.2.2.2⟩
def impl_Shape_text.pl0 : Refl.Pn G (Refl.PT G (impl_Shape_text.e 0).ol) := ⟨true, 0, ⟨[(3, .v (.c .str)), (10, .v (.c (.row 3 false))), (11, .v (.c li)), (12, .v (.c li)), (1, .box 1 0)], [(1, 23, gL1)]⟩, fun k x => impl_Shape_text.l0 k x.1 x.2.1 x.2.2.1 x.2.2.2.1 x.2.2.2.2.1 x.2.2.2.2.2.1 x.2.2.2.2.2.2.1 x.2.2.2.2.2.2.2.1 x.2.2.2.2.2.2.2.2.1 x.2.2.2.2.2.2.2.2.2⟩
theorem impl_Shape_text.ok (k : Nat) : Refl.EntOK Tryz.prog (impl_Shape_text.e k) := Refl.ent_ok 1000000 k GC (fun k => [strconv_Itoa.e k, impl_Shape_bends.e k]) (fun k => ⟨strconv_Itoa.ok k, impl_Shape_bends.ok k, trivial⟩) Tryz.func98 (by kernel_rfl) [impl_Shape_text.pl0] (ps := [impl_Shape_text.pl0]) (by kernel_rfl) ⟨⟨fun x => by kernel_rfl, fun k x => by kernel_rfl⟩, trivial⟩ (fun x => by kernel_rfl)

/-! ### impl_Shape_with: function 138 -/

def impl_Shape_with.f (a0_0 : Int) (a0_1 : Int) (a0_2 : Int) (a0_3 : Int) (a0_4 : Int) (a0_5 : Bool) (a1 : Int) (a2 : Int) : Option (Int × Int × Int × Int × Int × Bool) := if a1 = 0 then (if a0_5 = true then ((impl_Shape_maySpread.f a2 a0_1 a0_2 a0_3 a0_4 a0_5).bind fun t341 => (some (a2, a0_1, a0_2, a0_3, a0_4, t341))) else (some (a2, a0_1, a0_2, a0_3, a0_4, false))) else (if a1 = 1 then (if a0_5 = true then ((impl_Shape_maySpread.f a0_0 a2 a0_2 a0_3 a0_4 a0_5).bind fun t342 => (some (a0_0, a2, a0_2, a0_3, a0_4, t342))) else (some (a0_0, a2, a0_2, a0_3, a0_4, false))) else (if a1 = 2 then (if a0_5 = true then ((impl_Shape_maySpread.f a0_0 a0_1 a2 a0_3 a0_4 a0_5).bind fun t343 => (some (a0_0, a0_1, a2, a0_3, a0_4, t343))) else (some (a0_0, a0_1, a2, a0_3, a0_4, false))) else (if a1 = 3 then (if a0_5 = true then ((impl_Shape_maySpread.f a0_0 a0_1 a0_2 a2 a0_4 a0_5).bind fun t344 => (some (a0_0, a0_1, a0_2, a2, a0_4, t344))) else (some (a0_0, a0_1, a0_2, a2, a0_4, false))) else (if a0_5 = true then ((impl_Shape_maySpread.f a0_0 a0_1 a0_2 a0_3 a2 a0_5).bind fun t345 => (some (a0_0, a0_1, a0_2, a0_3, a2, t345))) else (some (a0_0, a0_1, a0_2, a0_3, a2, false))))))

def impl_Shape_with.e (k : Nat) : Refl.Ent G := ⟨138, [(.agg [li, li, li, li, li, .bool]), (.c li), (.c li)], .one (.agg [li, li, li, li, li, .bool]), fun x => impl_Shape_with.f x.1 x.2.1 x.2.2.1 x.2.2.2.1 x.2.2.2.2.1 x.2.2.2.2.2.1 x.2.2.2.2.2.2.1 x.2.2.2.2.2.2.2⟩
theorem impl_Shape_with.ok (k : Nat) : Refl.EntOK Tryz.prog (impl_Shape_with.e k) := Refl.ent_ok 1000000 k GC (fun k => [impl_Shape_maySpread.e k]) (fun k => ⟨impl_Shape_maySpread.ok k, trivial⟩) Tryz.func138 (by kernel_rfl) [] (ps := []) (by kernel_rfl) trivial (fun x => by kernel_rfl)

/-! ### impl_ParseShape: function 87 -/

def impl_ParseShape.l0 : Nat → ByteArray → Int → Int → Int → Int → Int → Int → Bool → Option (Int × Int × Int × Int × Int × Bool × Bool)
  | 0, _, _, _, _, _, _, _, _ => none
  | k + 1, x0, x11, x349000, x349001, x349002, x349003, x349004, x349005 => if x11 < 5 then (if 0 ≤ x11 then (if x11 < (x0.size : Int) then ((impl_Shape_with.f x349000 x349001 x349002 x349003 x349004 x349005 x11 (wrap64 ((wrap64 (bt x0 x11)) - 48))).bind fun bt349 => (impl_ParseShape.l0 k x0 (wrap64 (x11 + 1)) bt349.1 bt349.2.1 bt349.2.2.1 bt349.2.2.2.1 bt349.2.2.2.2.1 bt349.2.2.2.2.2)) else (none)) else (none)) else ((impl_IsShape.f x349000 x349001 x349002 x349003 x349004 ((x0.size : Int) == 6)).bind fun t355 => (if t355 = true then ((impl_Shape_text.f k x349000 x349001 x349002 x349003 x349004 ((x0.size : Int) == 6)).bind fun t356 => (if t356.toList = x0.toList then (some (x349000, x349001, x349002, x349003, x349004, ((x0.size : Int) == 6), true)) else (some (0, 0, 0, 0, 0, false, false)))) else (some (0, 0, 0, 0, 0, false, false))))

def impl_ParseShape.f (k : Nat) (a0 : ByteArray) : Option (Int × Int × Int × Int × Int × Bool × Bool) := (impl_within.f (a0.size : Int) 5 6).bind fun t347 => (if t347 = true then (impl_ParseShape.l0 k a0 0 0 0 0 0 0 false) else (some (0, 0, 0, 0, 0, false, false)))

theorem impl_ParseShape.mono_l : ∀ k, (∀ y0 y1 y2 y3 y4 y5 y6 y7, LeO (impl_ParseShape.l0 k y0 y1 y2 y3 y4 y5 y6 y7) (impl_ParseShape.l0 (k + 1) y0 y1 y2 y3 y4 y5 y6 y7))
  | 0 => fun _ _ _ _ _ _ _ _ r h => by simp [impl_ParseShape.l0] at h
  | k + 1 => by
    have ih0 := impl_ParseShape.mono_l k
    · intro y0 y1 y2 y3 y4 y5 y6 y7
      unfold impl_ParseShape.l0
      repeat' first
      | (with_reducible exact ih0 _ _ _ _ _ _ _ _)
      | (with_reducible exact impl_Shape_text.mono _ _ _ _ _ _ _)
      | (with_reducible exact LeO.refl _)
      | (with_reducible exact LeO.none _)
      | (with_reducible refine LeO.ite ?_ ?_)
      | (with_reducible refine LeO.bind ?_ (fun _ => ?_))
      | exact ih0 _ _ _ _ _ _ _ _
      | exact impl_Shape_text.mono _ _ _ _ _ _ _
      | exact LeO.none _
      | refine LeO.ite ?_ ?_
      | refine LeO.bind ?_ (fun _ => ?_)

theorem impl_ParseShape.mono : ∀ a0 k, LeO (impl_ParseShape.f k a0) (impl_ParseShape.f (k + 1) a0) := by
  intro a0 k
  have ih0 := impl_ParseShape.mono_l k
  unfold impl_ParseShape.f
  repeat' first
      | (with_reducible exact ih0 _ _ _ _ _ _ _ _)
      | (with_reducible exact impl_Shape_text.mono _ _ _ _ _ _ _)
      | (with_reducible exact LeO.refl _)
      | (with_reducible exact LeO.none _)
      | (with_reducible refine LeO.ite ?_ ?_)
      | (with_reducible refine LeO.bind ?_ (fun _ => ?_))
      | exact ih0 _ _ _ _ _ _ _ _
      | exact impl_Shape_text.mono _ _ _ _ _ _ _
      | exact LeO.none _
      | refine LeO.ite ?_ ?_
      | refine LeO.bind ?_ (fun _ => ?_)

def impl_ParseShape.e (k : Nat) : Refl.Ent G := ⟨87, [(.c .str)], .tup [(.agg [li, li, li, li, li, .bool]), (.c .bool)], fun x => impl_ParseShape.f k x⟩
def impl_ParseShape.pl0 : Refl.Pn G (Refl.PT G (impl_ParseShape.e 0).ol) := ⟨true, 0, ⟨[(0, .v (.c .str)), (11, .v (.c li)), (4, .box 4 0), (2, .box 2 0), (3, .k (Value.bool false))], [(4, 23, gL1), (2, 23, gL0)]⟩, fun k x => impl_ParseShape.l0 k x.1 x.2.1 x.2.2.1 x.2.2.2.1 x.2.2.2.2.1 x.2.2.2.2.2.1 x.2.2.2.2.2.2.1 x.2.2.2.2.2.2.2⟩
theorem impl_ParseShape.ok (k : Nat) : Refl.EntOK Tryz.prog (impl_ParseShape.e k) := Refl.ent_ok 1000000 k GC (fun k => [impl_within.e k, impl_Shape_with.e k, impl_IsShape.e k, impl_Shape_text.e k]) (fun k => ⟨impl_within.ok k, impl_Shape_with.ok k, impl_IsShape.ok k, impl_Shape_text.ok k, trivial⟩) Tryz.func87 (by kernel_rfl) [impl_ParseShape.pl0] (ps := [impl_ParseShape.pl0]) (by kernel_rfl) ⟨⟨fun x => by kernel_rfl, fun k x => by kernel_rfl⟩, trivial⟩ (fun x => by kernel_rfl)

end Go.Proofs.YtcicpmhcmlfhbaaGreatDoor.PA
