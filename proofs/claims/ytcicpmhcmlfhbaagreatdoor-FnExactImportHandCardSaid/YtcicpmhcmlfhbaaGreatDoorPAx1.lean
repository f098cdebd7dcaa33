-- Written by a program of this session (wip/tools/myprint.py). Not trusted: Lean checks it.
import Derived.Test.YtcicpmhcmlfhbaaGreatDoorCtx
namespace Go.Proofs.YtcicpmhcmlfhbaaGreatDoor.PA
open Go.RowKit Go.Proofs.YtcicpmhcmlfhbaaGreatDoorW.PrintWords Go.Proofs.YtcicpmhcmlfhbaaGreatDoorW.PrintLast Go.Proofs.YtcicpmhcmlfhbaaGreatDoorW.PrintMore
attribute [local go_sem] max2_int min2_int max_two min_two max_three min_three max_four min_four   -- for this text's walks alone
set_option linter.unusedVariables false
set_option linter.unusedSimpArgs false

/-! ### spec_imGiven: function 45 -/

def spec_imGiven.f (a0 : ByteArray) : Option (Bool) := some (decide ((a0.size : Int) ≤ 100))

def spec_imGiven.e (k : Nat) : Refl.Ent G := ⟨45, [(.c .str)], .one (.c .bool), fun x => spec_imGiven.f x⟩
theorem spec_imGiven.ok (k : Nat) : Refl.EntOK Tryz.prog (spec_imGiven.e k) := Refl.ent_ok 1000000 k GC (fun k => []) (fun k => trivial) Tryz.func45 (by kernel_rfl) [] (ps := []) (by kernel_rfl) trivial (fun x => by kernel_rfl)

/-! ### spec_l1In: function 132 -/

def spec_l1In.f (a0 : Int) (a1 : Int) (a2 : Int) : Option (Bool) := if a0 ≥ a1 then (some (decide (a0 ≤ a2))) else (some false)

def spec_l1In.e (k : Nat) : Refl.Ent G := ⟨132, [(.c li), (.c li), (.c li)], .one (.c .bool), fun x => spec_l1In.f x.1 x.2.1 x.2.2⟩
theorem spec_l1In.ok (k : Nat) : Refl.EntOK Tryz.prog (spec_l1In.e k) := Refl.ent_ok 1000000 k GC (fun k => []) (fun k => trivial) Tryz.func132 (by kernel_rfl) [] (ps := []) (by kernel_rfl) trivial (fun x => by kernel_rfl)

/-! ### spec_shFingers: function 146 -/

def spec_shFingers.f (a0_0 : Int) (a0_1 : Int) (a0_2 : Int) (a0_3 : Int) (a0_4 : Int) (a0_5 : Bool) : Option (List Int) := some (([a0_1, a0_2, a0_3, a0_4] : List Int))

def spec_shFingers.e (k : Nat) : Refl.Ent G := ⟨146, [(.agg [li, li, li, li, li, .bool])], .one (.c (.row 3 true)), fun x => spec_shFingers.f x.1 x.2.1 x.2.2.1 x.2.2.2.1 x.2.2.2.2.1 x.2.2.2.2.2⟩
theorem spec_shFingers.ok (k : Nat) : Refl.EntOK Tryz.prog (spec_shFingers.e k) := Refl.ent_ok 1000000 k GC (fun k => []) (fun k => trivial) Tryz.func146 (by kernel_rfl) [] (ps := []) (by kernel_rfl) trivial (fun x => by kernel_rfl)

/-! ### spec_l1All: function 151 -/

def spec_l1All.l0 : Nat → Int → Int → List Int → Int → Int → Option (Bool)
  | 0, _, _, _, _, _ => none
  | k + 1, x1, x2, x9, x10, x11 => if x11 < x10 then (if 0 ≤ x11 then (if x11 < (x9.length : Int) then ((spec_l1In.f (rd x9 x11) x1 x2).bind fun t106 => (if t106 = true then (spec_l1All.l0 k x1 x2 x9 x10 (wrap64 (x11 + 1))) else (some false))) else (none)) else (none)) else (some true)

def spec_l1All.f (k : Nat) (l0 : List Int) (a1 : Int) (a2 : Int) : Option (Bool) := spec_l1All.l0 k a1 a2 l0 (l0.length : Int) 0

theorem spec_l1All.mono_l : ∀ k, (∀ y0 y1 y2 y3 y4, LeO (spec_l1All.l0 k y0 y1 y2 y3 y4) (spec_l1All.l0 (k + 1) y0 y1 y2 y3 y4))
  | 0 => fun _ _ _ _ _ r h => by simp [spec_l1All.l0] at h
  | k + 1 => by
    have ih0 := spec_l1All.mono_l k
    · intro y0 y1 y2 y3 y4
      unfold spec_l1All.l0
      repeat' first
      | (with_reducible exact ih0 _ _ _ _ _)
      | (with_reducible exact LeO.refl _)
      | (with_reducible exact LeO.none _)
      | (with_reducible refine LeO.ite ?_ ?_)
      | (with_reducible refine LeO.bind ?_ (fun _ => ?_))
      | exact ih0 _ _ _ _ _
      | exact LeO.none _
      | refine LeO.ite ?_ ?_
      | refine LeO.bind ?_ (fun _ => ?_)

theorem spec_l1All.mono : ∀ a0 a1 a2 k, LeO (spec_l1All.f k a0 a1 a2) (spec_l1All.f (k + 1) a0 a1 a2) := by
  intro a0 a1 a2 k
  have ih0 := spec_l1All.mono_l k
  unfold spec_l1All.f
  repeat' first
      | (with_reducible exact ih0 _ _ _ _ _)
      | (with_reducible exact LeO.refl _)
      | (with_reducible exact LeO.none _)
      | (with_reducible refine LeO.ite ?_ ?_)
      | (with_reducible refine LeO.bind ?_ (fun _ => ?_))
      | exact ih0 _ _ _ _ _
      | exact LeO.none _
      | refine LeO.ite ?_ ?_
      | refine LeO.bind ?_ (fun _ => ?_)

def spec_l1All.e (k : Nat) : Refl.Ent G := ⟨151, [(.c (.row 3 false)), (.c li), (.c li)], .one (.c .bool), fun x => spec_l1All.f k x.1 x.2.1 x.2.2⟩
def spec_l1All.pl0 : Refl.Pn G (Refl.PT G (spec_l1All.e 0).ol) := ⟨true, 0, ⟨[(1, .v (.c li)), (2, .v (.c li)), (9, .v (.c (.row 3 false))), (10, .v (.c li)), (11, .v (.c li)), (6, .k (Value.bool false))], []⟩, fun k x => spec_l1All.l0 k x.1 x.2.1 x.2.2.1 x.2.2.2.1 x.2.2.2.2⟩
theorem spec_l1All.ok (k : Nat) : Refl.EntOK Tryz.prog (spec_l1All.e k) := Refl.ent_ok 1000000 k GC (fun k => [spec_l1In.e k]) (fun k => ⟨spec_l1In.ok k, trivial⟩) Tryz.func151 (by kernel_rfl) [spec_l1All.pl0] (ps := [spec_l1All.pl0]) (by kernel_rfl) ⟨⟨fun x => by kernel_rfl, fun k x => by kernel_rfl⟩, trivial⟩ (fun x => by kernel_rfl)

/-! ### spec_shWide: function 152 -/

def spec_shWide.l0 : Nat → List Int → Int → Option (Bool)
  | 0, _, _ => none
  | k + 1, x3, x4 => if x4 < 4 then (if 0 ≤ (wrap64 (x4 - 1)) then (if (wrap64 (x4 - 1)) < (x3.length : Int) then (if (rd x3 (wrap64 (x4 - 1))) = 0 then (if 0 ≤ x4 then (if x4 < (x3.length : Int) then (if (rd x3 x4) = 0 then (some true) else (spec_shWide.l0 k x3 (wrap64 (x4 + 1)))) else (none)) else (none)) else (spec_shWide.l0 k x3 (wrap64 (x4 + 1)))) else (none)) else (none)) else (some false)

def spec_shWide.f (k : Nat) (a0_0 : Int) (a0_1 : Int) (a0_2 : Int) (a0_3 : Int) (a0_4 : Int) (a0_5 : Bool) : Option (Bool) := (spec_shFingers.f a0_0 a0_1 a0_2 a0_3 a0_4 a0_5).bind fun t108 => (spec_shWide.l0 k t108 1)

theorem spec_shWide.mono_l : ∀ k, (∀ y0 y1, LeO (spec_shWide.l0 k y0 y1) (spec_shWide.l0 (k + 1) y0 y1))
  | 0 => fun _ _ r h => by simp [spec_shWide.l0] at h
  | k + 1 => by
    have ih0 := spec_shWide.mono_l k
    · intro y0 y1
      unfold spec_shWide.l0
      repeat' first
      | (with_reducible exact ih0 _ _)
      | (with_reducible exact LeO.refl _)
      | (with_reducible exact LeO.none _)
      | (with_reducible refine LeO.ite ?_ ?_)
      | (with_reducible refine LeO.bind ?_ (fun _ => ?_))
      | exact ih0 _ _
      | exact LeO.none _
      | refine LeO.ite ?_ ?_
      | refine LeO.bind ?_ (fun _ => ?_)

theorem spec_shWide.mono : ∀ a0 a1 a2 a3 a4 a5 k, LeO (spec_shWide.f k a0 a1 a2 a3 a4 a5) (spec_shWide.f (k + 1) a0 a1 a2 a3 a4 a5) := by
  intro a0 a1 a2 a3 a4 a5 k
  have ih0 := spec_shWide.mono_l k
  unfold spec_shWide.f
  repeat' first
      | (with_reducible exact ih0 _ _)
      | (with_reducible exact LeO.refl _)
      | (with_reducible exact LeO.none _)
      | (with_reducible refine LeO.ite ?_ ?_)
      | (with_reducible refine LeO.bind ?_ (fun _ => ?_))
      | exact ih0 _ _
      | exact LeO.none _
      | refine LeO.ite ?_ ?_
      | refine LeO.bind ?_ (fun _ => ?_)

def spec_shWide.e (k : Nat) : Refl.Ent G := ⟨152, [(.agg [li, li, li, li, li, .bool])], .one (.c .bool), fun x => spec_shWide.f k x.1 x.2.1 x.2.2.1 x.2.2.2.1 x.2.2.2.2.1 x.2.2.2.2.2⟩
def spec_shWide.pl0 : Refl.Pn G (Refl.PT G (spec_shWide.e 0).ol) := ⟨true, 0, ⟨[(3, .v (.c (.row 3 false))), (4, .v (.c li)), (2, .k (Value.bool false))], []⟩, fun k x => spec_shWide.l0 k x.1 x.2⟩
theorem spec_shWide.ok (k : Nat) : Refl.EntOK Tryz.prog (spec_shWide.e k) := Refl.ent_ok 1000000 k GC (fun k => [spec_shFingers.e k]) (fun k => ⟨spec_shFingers.ok k, trivial⟩) Tryz.func152 (by kernel_rfl) [spec_shWide.pl0] (ps := [spec_shWide.pl0]) (by kernel_rfl) ⟨⟨fun x => by kernel_rfl, fun k x => by kernel_rfl⟩, trivial⟩ (fun x => by kernel_rfl)

/-! ### spec_shGood: function 106 -/

def spec_shGood.f (k : Nat) (a0_0 : Int) (a0_1 : Int) (a0_2 : Int) (a0_3 : Int) (a0_4 : Int) (a0_5 : Bool) : Option (Bool) := (spec_l1In.f a0_0 0 2).bind fun t114 => (if t114 = true then ((spec_shFingers.f a0_0 a0_1 a0_2 a0_3 a0_4 a0_5).bind fun t115 => ((spec_l1All.f k t115 0 2).bind fun t118 => (if t118 = true then (if a0_5 = true then ((spec_shWide.f k a0_0 a0_1 a0_2 a0_3 a0_4 a0_5).bind fun t119 => (some t119)) else (some true)) else (some false)))) else (some false))

theorem spec_shGood.mono : ∀ a0 a1 a2 a3 a4 a5 k, LeO (spec_shGood.f k a0 a1 a2 a3 a4 a5) (spec_shGood.f (k + 1) a0 a1 a2 a3 a4 a5) := by
  intro a0 a1 a2 a3 a4 a5 k
  unfold spec_shGood.f
  repeat' first
      | (with_reducible exact spec_l1All.mono _ _ _ _)
      | (with_reducible exact spec_shWide.mono _ _ _ _ _ _ _)
      | (with_reducible exact LeO.refl _)
      | (with_reducible exact LeO.none _)
      | (with_reducible refine LeO.ite ?_ ?_)
      | (with_reducible refine LeO.bind ?_ (fun _ => ?_))
      | exact spec_l1All.mono _ _ _ _
      | exact spec_shWide.mono _ _ _ _ _ _ _
      | exact LeO.none _
      | refine LeO.ite ?_ ?_
      | refine LeO.bind ?_ (fun _ => ?_)

def spec_shGood.e (k : Nat) : Refl.Ent G := ⟨106, [(.agg [li, li, li, li, li, .bool])], .one (.c .bool), fun x => spec_shGood.f k x.1 x.2.1 x.2.2.1 x.2.2.2.1 x.2.2.2.2.1 x.2.2.2.2.2⟩
theorem spec_shGood.ok (k : Nat) : Refl.EntOK Tryz.prog (spec_shGood.e k) := Refl.ent_ok 1000000 k GC (fun k => [spec_l1In.e k, spec_shFingers.e k, spec_l1All.e k, spec_shWide.e k]) (fun k => ⟨spec_l1In.ok k, spec_shFingers.ok k, spec_l1All.ok k, spec_shWide.ok k, trivial⟩) Tryz.func106 (by kernel_rfl) [] (ps := []) (by kernel_rfl) trivial (fun x => by kernel_rfl)

/-! ### spec_shParse: function 80 -/

mutual
def spec_shParse.j0 : Nat → ByteArray → Bool → Option (Int × Int × Int × Int × Int × Bool × Bool)
  | 0, _, _ => none
  | k + 1, x0, x20 => if x20 = true then (some (0, 0, 0, 0, 0, false, false)) else (spec_shParse.l0 k x0 ([] : List Int) 0)
def spec_shParse.l0 : Nat → ByteArray → List Int → Int → Option (Int × Int × Int × Int × Int × Bool × Bool)
  | 0, _, _, _ => none
  | k + 1, x0, x4, x5 => if x5 < 5 then (if 0 ≤ x5 then (if x5 < (x0.size : Int) then (if x4.length < 17592186044416 then (spec_shParse.l0 k x0 (x4 ++ [wrap64 ((wrap64 (bt x0 x5)) - 48)]) (wrap64 (x5 + 1))) else (none)) else (none)) else (none)) else (if 0 < (x4.length : Int) then (if 1 < (x4.length : Int) then (if 2 < (x4.length : Int) then (if 3 < (x4.length : Int) then (if 4 < (x4.length : Int) then ((spec_shGood.f k (rd x4 0) (rd x4 1) (rd x4 2) (rd x4 3) (rd x4 4) ((x0.size : Int) == 6)).bind fun t131 => (if t131 = true then (some (rd x4 0, rd x4 1, rd x4 2, rd x4 3, rd x4 4, ((x0.size : Int) == 6), true)) else (some (0, 0, 0, 0, 0, false, false)))) else (none)) else (none)) else (none)) else (none)) else (none))
end

def spec_shParse.f (k : Nat) (a0 : ByteArray) : Option (Int × Int × Int × Int × Int × Bool × Bool) := (spec_l1In.f (a0.size : Int) 5 6).bind fun t121 => (if t121 = true then (if (a0.size : Int) = 6 then (if 5 < (a0.size : Int) then (spec_shParse.j0 k a0 ((bt a0 5) != 115)) else (none)) else (spec_shParse.j0 k a0 false)) else (spec_shParse.j0 k a0 true))

theorem spec_shParse.mono_l : ∀ k, (∀ y0 y1, LeO (spec_shParse.j0 k y0 y1) (spec_shParse.j0 (k + 1) y0 y1)) ∧ (∀ y0 y1 y2, LeO (spec_shParse.l0 k y0 y1 y2) (spec_shParse.l0 (k + 1) y0 y1 y2))
  | 0 => ⟨fun _ _ r h => by simp [spec_shParse.j0] at h, fun _ _ _ r h => by simp [spec_shParse.l0] at h⟩
  | k + 1 => by
    obtain ⟨ih0, ih1⟩ := spec_shParse.mono_l k
    refine ⟨?_, ?_⟩
    · intro y0 y1
      unfold spec_shParse.j0
      repeat' first
      | (with_reducible exact ih0 _ _)
      | (with_reducible exact ih1 _ _ _)
      | (with_reducible exact spec_shGood.mono _ _ _ _ _ _ _)
      | (with_reducible exact LeO.refl _)
      | (with_reducible exact LeO.none _)
      | (with_reducible refine LeO.ite ?_ ?_)
      | (with_reducible refine LeO.bind ?_ (fun _ => ?_))
      | exact ih0 _ _
      | exact ih1 _ _ _
      | exact spec_shGood.mono _ _ _ _ _ _ _
      | exact LeO.none _
      | refine LeO.ite ?_ ?_
      | refine LeO.bind ?_ (fun _ => ?_)
    · intro y0 y1 y2
      unfold spec_shParse.l0
      repeat' first
      | (with_reducible exact ih0 _ _)
      | (with_reducible exact ih1 _ _ _)
      | (with_reducible exact spec_shGood.mono _ _ _ _ _ _ _)
      | (with_reducible exact LeO.refl _)
      | (with_reducible exact LeO.none _)
      | (with_reducible refine LeO.ite ?_ ?_)
      | (with_reducible refine LeO.bind ?_ (fun _ => ?_))
      | exact ih0 _ _
      | exact ih1 _ _ _
      | exact spec_shGood.mono _ _ _ _ _ _ _
      | exact LeO.none _
      | refine LeO.ite ?_ ?_
      | refine LeO.bind ?_ (fun _ => ?_)

theorem spec_shParse.mono : ∀ a0 k, LeO (spec_shParse.f k a0) (spec_shParse.f (k + 1) a0) := by
  intro a0 k
  obtain ⟨ih0, ih1⟩ := spec_shParse.mono_l k
  unfold spec_shParse.f
  repeat' first
      | (with_reducible exact ih0 _ _)
      | (with_reducible exact ih1 _ _ _)
      | (with_reducible exact spec_shGood.mono _ _ _ _ _ _ _)
      | (with_reducible exact LeO.refl _)
      | (with_reducible exact LeO.none _)
      | (with_reducible refine LeO.ite ?_ ?_)
      | (with_reducible refine LeO.bind ?_ (fun _ => ?_))
      | exact ih0 _ _
      | exact ih1 _ _ _
      | exact spec_shGood.mono _ _ _ _ _ _ _
      | exact LeO.none _
      | refine LeO.ite ?_ ?_
      | refine LeO.bind ?_ (fun _ => ?_)

def spec_shParse.e (k : Nat) : Refl.Ent G := ⟨80, [(.c .str)], .tup [(.agg [li, li, li, li, li, .bool]), (.c .bool)], fun x => spec_shParse.f k x⟩
def spec_shParse.pj0 : Refl.Pn G (Refl.PT G (spec_shParse.e 0).ol) := ⟨false, 1000001, ⟨[(0, .v (.c .str)), (20, .v (.c .bool)), (2, .box 2 0), (3, .k (Value.bool false))], [(2, 23, gL0)]⟩, fun k x => spec_shParse.j0 k x.1 x.2⟩
def spec_shParse.pl0 : Refl.Pn G (Refl.PT G (spec_shParse.e 0).ol) := ⟨true, 0, ⟨[(0, .v (.c .str)), (4, .v (.c (.row 3 true))), (5, .v (.c li)), (2, .box 2 0), (3, .k (Value.bool false))], [(2, 23, gL0)]⟩, fun k x => spec_shParse.l0 k x.1 x.2.1 x.2.2⟩
theorem spec_shParse.ok (k : Nat) : Refl.EntOK Tryz.prog (spec_shParse.e k) := Refl.ent_ok 1000000 k GC (fun k => [spec_l1In.e k, spec_shGood.e k]) (fun k => ⟨spec_l1In.ok k, spec_shGood.ok k, trivial⟩) Tryz.func80 (by kernel_rfl) [spec_shParse.pj0, spec_shParse.pl0] (ps := [spec_shParse.pj0, spec_shParse.pl0]) (by kernel_rfl) ⟨⟨fun x => by kernel_rfl, fun k x => by kernel_rfl⟩, ⟨fun x => by kernel_rfl, fun k x => by kernel_rfl⟩, trivial⟩ (fun x => by kernel_rfl)

/-! ### spec_orDir: function 153 -/

def spec_orDir.f (a0 : Int) : Option (Bool) := (spec_l1In.f a0 0 5).bind fun t132 => (some t132)

def spec_orDir.e (k : Nat) : Refl.Ent G := ⟨153, [(.c li)], .one (.c .bool), fun x => spec_orDir.f x⟩
theorem spec_orDir.ok (k : Nat) : Refl.EntOK Tryz.prog (spec_orDir.e k) := Refl.ent_ok 1000000 k GC (fun k => [spec_l1In.e k]) (fun k => ⟨spec_l1In.ok k, trivial⟩) Tryz.func153 (by kernel_rfl) [] (ps := []) (by kernel_rfl) trivial (fun x => by kernel_rfl)

/-! ### spec_orOpposite: function 154 -/

def spec_orOpposite.f (a0 : Int) : Option (Int) := if (Int.tmod a0 2) = 0 then (some (wrap64 (a0 + 1))) else (some (wrap64 (a0 - 1)))

def spec_orOpposite.e (k : Nat) : Refl.Ent G := ⟨154, [(.c li)], .one (.c li), fun x => spec_orOpposite.f x⟩
theorem spec_orOpposite.ok (k : Nat) : Refl.EntOK Tryz.prog (spec_orOpposite.e k) := Refl.ent_ok 1000000 k GC (fun k => []) (fun k => trivial) Tryz.func154 (by kernel_rfl) [] (ps := []) (by kernel_rfl) trivial (fun x => by kernel_rfl)

/-! ### spec_orGood: function 107 -/

def spec_orGood.f (a0_0 : Int) (a0_1 : Int) : Option (Bool) := (spec_orDir.f a0_0).bind fun t134 => (if t134 = true then ((spec_orDir.f a0_1).bind fun t135 => (if t135 = true then (if a0_0 = a0_1 then (some false) else ((spec_orOpposite.f a0_1).bind fun t136 => (some (a0_0 != t136)))) else (some false))) else (some false))

def spec_orGood.e (k : Nat) : Refl.Ent G := ⟨107, [(.agg [li, li])], .one (.c .bool), fun x => spec_orGood.f x.1 x.2⟩
theorem spec_orGood.ok (k : Nat) : Refl.EntOK Tryz.prog (spec_orGood.e k) := Refl.ent_ok 1000000 k GC (fun k => [spec_orDir.e k, spec_orOpposite.e k]) (fun k => ⟨spec_orDir.ok k, spec_orOpposite.ok k, trivial⟩) Tryz.func107 (by kernel_rfl) [] (ps := []) (by kernel_rfl) trivial (fun x => by kernel_rfl)

/-! ### spec_orLetter: function 133 -/

def spec_orLetter.l0 : Nat → Int → Int → Option (Int)
  | 0, _, _ => none
  | k + 1, x0, x3 => if x3 < 6 then (if 0 ≤ x3 then (if x3 < 6 then (if (bt (⟨#[117, 100, 108, 114, 102, 98]⟩ : ByteArray) x3) = x0 then (some x3) else (spec_orLetter.l0 k x0 (wrap64 (x3 + 1)))) else (none)) else (none)) else (some (-1))

def spec_orLetter.f (k : Nat) (a0 : Int) : Option (Int) := spec_orLetter.l0 k a0 0

theorem spec_orLetter.mono_l : ∀ k, (∀ y0 y1, LeO (spec_orLetter.l0 k y0 y1) (spec_orLetter.l0 (k + 1) y0 y1))
  | 0 => fun _ _ r h => by simp [spec_orLetter.l0] at h
  | k + 1 => by
    have ih0 := spec_orLetter.mono_l k
    · intro y0 y1
      unfold spec_orLetter.l0
      repeat' first
      | (with_reducible exact ih0 _ _)
      | (with_reducible exact LeO.refl _)
      | (with_reducible exact LeO.none _)
      | (with_reducible refine LeO.ite ?_ ?_)
      | (with_reducible refine LeO.bind ?_ (fun _ => ?_))
      | exact ih0 _ _
      | exact LeO.none _
      | refine LeO.ite ?_ ?_
      | refine LeO.bind ?_ (fun _ => ?_)

theorem spec_orLetter.mono : ∀ a0 k, LeO (spec_orLetter.f k a0) (spec_orLetter.f (k + 1) a0) := by
  intro a0 k
  have ih0 := spec_orLetter.mono_l k
  unfold spec_orLetter.f
  repeat' first
      | (with_reducible exact ih0 _ _)
      | (with_reducible exact LeO.refl _)
      | (with_reducible exact LeO.none _)
      | (with_reducible refine LeO.ite ?_ ?_)
      | (with_reducible refine LeO.bind ?_ (fun _ => ?_))
      | exact ih0 _ _
      | exact LeO.none _
      | refine LeO.ite ?_ ?_
      | refine LeO.bind ?_ (fun _ => ?_)

def spec_orLetter.e (k : Nat) : Refl.Ent G := ⟨133, [(.c (.int .u8))], .one (.c li), fun x => spec_orLetter.f k x⟩
def spec_orLetter.pl0 : Refl.Pn G (Refl.PT G (spec_orLetter.e 0).ol) := ⟨true, 0, ⟨[(0, .v (.c (.int .u8))), (3, .v (.c li)), (2, .k (Value.int IntKind.i64 0))], []⟩, fun k x => spec_orLetter.l0 k x.1 x.2⟩
theorem spec_orLetter.ok (k : Nat) : Refl.EntOK Tryz.prog (spec_orLetter.e k) := Refl.ent_ok 1000000 k GC (fun k => []) (fun k => trivial) Tryz.func133 (by kernel_rfl) [spec_orLetter.pl0] (ps := [spec_orLetter.pl0]) (by kernel_rfl) ⟨⟨fun x => by kernel_rfl, fun k x => by kernel_rfl⟩, trivial⟩ (fun x => by kernel_rfl)

/-! ### spec_orParse: function 81 -/

def spec_orParse.f (k : Nat) (a0 : ByteArray) : Option (Int × Int × Bool) := if (a0.size : Int) = 2 then (if 0 < (a0.size : Int) then ((spec_orLetter.f k (bt a0 0)).bind fun t138 => (if 1 < (a0.size : Int) then ((spec_orLetter.f k (bt a0 1)).bind fun t139 => ((spec_orGood.f t138 t139).bind fun t141 => (if t141 = true then (some (t138, t139, true)) else (some (0, 0, false))))) else (none))) else (none)) else (some (0, 0, false))

theorem spec_orParse.mono : ∀ a0 k, LeO (spec_orParse.f k a0) (spec_orParse.f (k + 1) a0) := by
  intro a0 k
  unfold spec_orParse.f
  repeat' first
      | (with_reducible exact spec_orLetter.mono _ _)
      | (with_reducible exact LeO.refl _)
      | (with_reducible exact LeO.none _)
      | (with_reducible refine LeO.ite ?_ ?_)
      | (with_reducible refine LeO.bind ?_ (fun _ => ?_))
      | exact spec_orLetter.mono _ _
      | exact LeO.none _
      | refine LeO.ite ?_ ?_
      | refine LeO.bind ?_ (fun _ => ?_)

def spec_orParse.e (k : Nat) : Refl.Ent G := ⟨81, [(.c .str)], .tup [(.agg [li, li]), (.c .bool)], fun x => spec_orParse.f k x⟩
theorem spec_orParse.ok (k : Nat) : Refl.EntOK Tryz.prog (spec_orParse.e k) := Refl.ent_ok 1000000 k GC (fun k => [spec_orLetter.e k, spec_orGood.e k]) (fun k => ⟨spec_orLetter.ok k, spec_orGood.ok k, trivial⟩) Tryz.func81 (by kernel_rfl) [] (ps := []) (by kernel_rfl) trivial (fun x => by kernel_rfl)

/-! ### spec_l1Split: function 82 -/

def spec_l1Split.l0 : Nat → ByteArray → Int → List ByteArray → Int → Int → Option (List ByteArray)
  | 0, _, _, _, _, _ => none
  | k + 1, x0, x1, x5, x6, x7 => if x7 < (x0.size : Int) then (if 0 ≤ x7 then (if x7 < (x0.size : Int) then (if (bt x0 x7) = x1 then (if 0 ≤ x6 then (if x6 ≤ x7 then (if x7 ≤ (x0.size : Int) then (if x5.length < 8796093022208 then (spec_l1Split.l0 k x0 x1 (x5 ++ [x0.extract (x6 : Int).toNat (x7 : Int).toNat]) (wrap64 (x7 + 1)) (wrap64 (x7 + 1))) else (none)) else (none)) else (none)) else (none)) else (spec_l1Split.l0 k x0 x1 x5 x6 (wrap64 (x7 + 1)))) else (none)) else (none)) else (if 0 ≤ x6 then (if x6 ≤ (x0.size : Int) then (if x5.length < 8796093022208 then (some (x5 ++ [x0.extract (x6 : Int).toNat x0.size])) else (none)) else (none)) else (none))

def spec_l1Split.f (k : Nat) (a0 : ByteArray) (a1 : Int) : Option (List ByteArray) := spec_l1Split.l0 k a0 a1 ([] : List ByteArray) 0 0

theorem spec_l1Split.mono_l : ∀ k, (∀ y0 y1 y2 y3 y4, LeO (spec_l1Split.l0 k y0 y1 y2 y3 y4) (spec_l1Split.l0 (k + 1) y0 y1 y2 y3 y4))
  | 0 => fun _ _ _ _ _ r h => by simp [spec_l1Split.l0] at h
  | k + 1 => by
    have ih0 := spec_l1Split.mono_l k
    · intro y0 y1 y2 y3 y4
      unfold spec_l1Split.l0
      repeat' first
      | (with_reducible exact ih0 _ _ _ _ _)
      | (with_reducible exact LeO.refl _)
      | (with_reducible exact LeO.none _)
      | (with_reducible refine LeO.ite ?_ ?_)
      | (with_reducible refine LeO.bind ?_ (fun _ => ?_))
      | exact ih0 _ _ _ _ _
      | exact LeO.none _
      | refine LeO.ite ?_ ?_
      | refine LeO.bind ?_ (fun _ => ?_)

theorem spec_l1Split.mono : ∀ a0 a1 k, LeO (spec_l1Split.f k a0 a1) (spec_l1Split.f (k + 1) a0 a1) := by
  intro a0 a1 k
  have ih0 := spec_l1Split.mono_l k
  unfold spec_l1Split.f
  repeat' first
      | (with_reducible exact ih0 _ _ _ _ _)
      | (with_reducible exact LeO.refl _)
      | (with_reducible exact LeO.none _)
      | (with_reducible refine LeO.ite ?_ ?_)
      | (with_reducible refine LeO.bind ?_ (fun _ => ?_))
      | exact ih0 _ _ _ _ _
      | exact LeO.none _
      | refine LeO.ite ?_ ?_
      | refine LeO.bind ?_ (fun _ => ?_)

def spec_l1Split.e (k : Nat) : Refl.Ent G := ⟨82, [(.c .str), (.c (.int .u8))], .one (.c (.row 9 true)), fun x => spec_l1Split.f k x.1 x.2⟩
def spec_l1Split.pl0 : Refl.Pn G (Refl.PT G (spec_l1Split.e 0).ol) := ⟨true, 0, ⟨[(0, .v (.c .str)), (1, .v (.c (.int .u8))), (5, .v (.c (.row 9 true))), (6, .v (.c li)), (7, .v (.c li))], []⟩, fun k x => spec_l1Split.l0 k x.1 x.2.1 x.2.2.1 x.2.2.2.1 x.2.2.2.2⟩
theorem spec_l1Split.ok (k : Nat) : Refl.EntOK Tryz.prog (spec_l1Split.e k) := Refl.ent_ok 1000000 k GC (fun k => []) (fun k => trivial) Tryz.func82 (by kernel_rfl) [spec_l1Split.pl0] (ps := [spec_l1Split.pl0]) (by kernel_rfl) ⟨⟨fun x => by kernel_rfl, fun k x => by kernel_rfl⟩, trivial⟩ (fun x => by kernel_rfl)

/-! ### spec_plNames: function 147 -/

def spec_plNames.f  : Option (List ByteArray) := some (([(⟨#[115, 112, 97, 99, 101]⟩ : ByteArray), (⟨#[104, 101, 97, 100]⟩ : ByteArray), (⟨#[101, 121, 101]⟩ : ByteArray), (⟨#[99, 104, 101, 101, 107]⟩ : ByteArray), (⟨#[109, 111, 117, 116, 104]⟩ : ByteArray), (⟨#[99, 104, 105, 110]⟩ : ByteArray), (⟨#[110, 101, 99, 107]⟩ : ByteArray), (⟨#[99, 104, 101, 115, 116]⟩ : ByteArray), (⟨#[119, 97, 105, 115, 116]⟩ : ByteArray), (⟨#[104, 105, 112]⟩ : ByteArray)] : List ByteArray))

def spec_plNames.e (k : Nat) : Refl.Ent G := ⟨147, [], .one (.c (.row 9 true)), fun _ => spec_plNames.f ⟩
theorem spec_plNames.ok (k : Nat) : Refl.EntOK Tryz.prog (spec_plNames.e k) := Refl.ent_ok 1000000 k GC (fun k => []) (fun k => trivial) Tryz.func147 (by kernel_rfl) [] (ps := []) (by kernel_rfl) trivial (fun x => by kernel_rfl)

/-! ### spec_plText: function 93 -/

def spec_plText.f (a0_0 : Int) (a0_1 : Int) (a0_2 : Bool) : Option (ByteArray) := (spec_plNames.f).bind fun t152 => (if 0 ≤ a0_0 then (if a0_0 < (t152.length : Int) then (if a0_1 = (-1) then (if (rdOf ByteArray.empty t152 a0_0).size + 1 ≤ 9223372036854775807 then (if a0_2 = true then (if ((rdOf ByteArray.empty t152 a0_0) ++ (⟨#[60]⟩ : ByteArray)).size + 1 ≤ 9223372036854775807 then (some (((rdOf ByteArray.empty t152 a0_0) ++ (⟨#[60]⟩ : ByteArray)) ++ (⟨#[42]⟩ : ByteArray))) else (none)) else (some ((rdOf ByteArray.empty t152 a0_0) ++ (⟨#[60]⟩ : ByteArray)))) else (none)) else (if a0_1 = 1 then (if (rdOf ByteArray.empty t152 a0_0).size + 1 ≤ 9223372036854775807 then (if a0_2 = true then (if ((rdOf ByteArray.empty t152 a0_0) ++ (⟨#[62]⟩ : ByteArray)).size + 1 ≤ 9223372036854775807 then (some (((rdOf ByteArray.empty t152 a0_0) ++ (⟨#[62]⟩ : ByteArray)) ++ (⟨#[42]⟩ : ByteArray))) else (none)) else (some ((rdOf ByteArray.empty t152 a0_0) ++ (⟨#[62]⟩ : ByteArray)))) else (none)) else (if a0_2 = true then (if (rdOf ByteArray.empty t152 a0_0).size + 1 ≤ 9223372036854775807 then (some ((rdOf ByteArray.empty t152 a0_0) ++ (⟨#[42]⟩ : ByteArray))) else (none)) else (some (rdOf ByteArray.empty t152 a0_0))))) else (none)) else (none))

def spec_plText.e (k : Nat) : Refl.Ent G := ⟨93, [(.agg [li, li, .bool])], .one (.c .str), fun x => spec_plText.f x.1 x.2.1 x.2.2⟩
theorem spec_plText.ok (k : Nat) : Refl.EntOK Tryz.prog (spec_plText.e k) := Refl.ent_ok 1000000 k GC (fun k => [spec_plNames.e k]) (fun k => ⟨spec_plNames.ok k, trivial⟩) Tryz.func93 (by kernel_rfl) [] (ps := []) (by kernel_rfl) trivial (fun x => by kernel_rfl)

/-! ### spec_plGood: function 108 -/

def spec_plGood.f (a0_0 : Int) (a0_1 : Int) (a0_2 : Bool) : Option (Bool) := (spec_l1In.f a0_0 0 9).bind fun t157 => (if t157 = true then ((spec_l1In.f a0_1 (-1) 1).bind fun t158 => (if t158 = true then (if a0_0 > 0 then (some true) else (some (!a0_2))) else (some false))) else (some false))

def spec_plGood.e (k : Nat) : Refl.Ent G := ⟨108, [(.agg [li, li, .bool])], .one (.c .bool), fun x => spec_plGood.f x.1 x.2.1 x.2.2⟩
theorem spec_plGood.ok (k : Nat) : Refl.EntOK Tryz.prog (spec_plGood.e k) := Refl.ent_ok 1000000 k GC (fun k => [spec_l1In.e k]) (fun k => ⟨spec_l1In.ok k, trivial⟩) Tryz.func108 (by kernel_rfl) [] (ps := []) (by kernel_rfl) trivial (fun x => by kernel_rfl)

/-! ### spec_plAll: function 156 -/

mutual
def spec_plAll.l0 : Nat → List (S27) → Int → Option ((List (S27)))
  | 0, _, _ => none
  | k + 1, x1, x2 => if x2 < 10 then (spec_plAll.l1 k x1 x2 (-1)) else (some x1)
def spec_plAll.l1 : Nat → List (S27) → Int → Int → Option ((List (S27)))
  | 0, _, _, _ => none
  | k + 1, x1, x2, x3 => if x3 ≤ 1 then ((some (([false, true] : List Bool) : List Bool)).bind fun y159 => (spec_plAll.l2 k x1 x2 x3 y159 (y159.length : Int) 0)) else (spec_plAll.l0 k x1 (wrap64 (x2 + 1)))
def spec_plAll.l2 : Nat → List (S27) → Int → Int → List Bool → Int → Int → Option ((List (S27)))
  | 0, _, _, _, _, _, _ => none
  | k + 1, x1, x2, x3, x15, x16, x17 => if x17 < x16 then (if 0 ≤ x17 then (if x17 < (x15.length : Int) then ((spec_plGood.f x2 x3 (rdOf false x15 x17)).bind fun t164 => (if t164 = true then (if x1.length < 5864062014805 then (spec_plAll.l2 k (x1 ++ [(⟨x2, x3, rdOf false x15 x17⟩ : S27)]) x2 x3 x15 x16 (wrap64 (x17 + 1))) else (none)) else (spec_plAll.l2 k x1 x2 x3 x15 x16 (wrap64 (x17 + 1))))) else (none)) else (none)) else (spec_plAll.l1 k x1 x2 (wrap64 (x3 + 1)))
end

def spec_plAll.f (k : Nat)  : Option ((List (S27))) := spec_plAll.l0 k ([] : List (S27)) 0

theorem spec_plAll.mono_l : ∀ k, (∀ y0 y1, LeO (spec_plAll.l0 k y0 y1) (spec_plAll.l0 (k + 1) y0 y1)) ∧ (∀ y0 y1 y2, LeO (spec_plAll.l1 k y0 y1 y2) (spec_plAll.l1 (k + 1) y0 y1 y2)) ∧ (∀ y0 y1 y2 y3 y4 y5, LeO (spec_plAll.l2 k y0 y1 y2 y3 y4 y5) (spec_plAll.l2 (k + 1) y0 y1 y2 y3 y4 y5))
  | 0 => ⟨fun _ _ r h => by simp [spec_plAll.l0] at h, fun _ _ _ r h => by simp [spec_plAll.l1] at h, fun _ _ _ _ _ _ r h => by simp [spec_plAll.l2] at h⟩
  | k + 1 => by
    obtain ⟨ih0, ih1, ih2⟩ := spec_plAll.mono_l k
    refine ⟨?_, ?_, ?_⟩
    · intro y0 y1
      unfold spec_plAll.l0
      repeat' first
      | (with_reducible exact ih0 _ _)
      | (with_reducible exact ih1 _ _ _)
      | (with_reducible exact ih2 _ _ _ _ _ _)
      | (with_reducible exact LeO.refl _)
      | (with_reducible exact LeO.none _)
      | (with_reducible refine LeO.ite ?_ ?_)
      | (with_reducible refine LeO.bind ?_ (fun _ => ?_))
      | exact ih0 _ _
      | exact ih1 _ _ _
      | exact ih2 _ _ _ _ _ _
      | exact LeO.none _
      | refine LeO.ite ?_ ?_
      | refine LeO.bind ?_ (fun _ => ?_)
    · intro y0 y1 y2
      unfold spec_plAll.l1
      repeat' first
      | (with_reducible exact ih0 _ _)
      | (with_reducible exact ih1 _ _ _)
      | (with_reducible exact ih2 _ _ _ _ _ _)
      | (with_reducible exact LeO.refl _)
      | (with_reducible exact LeO.none _)
      | (with_reducible refine LeO.ite ?_ ?_)
      | (with_reducible refine LeO.bind ?_ (fun _ => ?_))
      | exact ih0 _ _
      | exact ih1 _ _ _
      | exact ih2 _ _ _ _ _ _
      | exact LeO.none _
      | refine LeO.ite ?_ ?_
      | refine LeO.bind ?_ (fun _ => ?_)
    · intro y0 y1 y2 y3 y4 y5
      unfold spec_plAll.l2
      repeat' first
      | (with_reducible exact ih0 _ _)
      | (with_reducible exact ih1 _ _ _)
      | (with_reducible exact ih2 _ _ _ _ _ _)
      | (with_reducible exact LeO.refl _)
      | (with_reducible exact LeO.none _)
      | (with_reducible refine LeO.ite ?_ ?_)
      | (with_reducible refine LeO.bind ?_ (fun _ => ?_))
      | exact ih0 _ _
      | exact ih1 _ _ _
      | exact ih2 _ _ _ _ _ _
      | exact LeO.none _
      | refine LeO.ite ?_ ?_
      | refine LeO.bind ?_ (fun _ => ?_)

theorem spec_plAll.mono : ∀ k, LeO (spec_plAll.f k ) (spec_plAll.f (k + 1) ) := by
  intro  k
  obtain ⟨ih0, ih1, ih2⟩ := spec_plAll.mono_l k
  unfold spec_plAll.f
  repeat' first
      | (with_reducible exact ih0 _ _)
      | (with_reducible exact ih1 _ _ _)
      | (with_reducible exact ih2 _ _ _ _ _ _)
      | (with_reducible exact LeO.refl _)
      | (with_reducible exact LeO.none _)
      | (with_reducible refine LeO.ite ?_ ?_)
      | (with_reducible refine LeO.bind ?_ (fun _ => ?_))
      | exact ih0 _ _
      | exact ih1 _ _ _
      | exact ih2 _ _ _ _ _ _
      | exact LeO.none _
      | refine LeO.ite ?_ ?_
      | refine LeO.bind ?_ (fun _ => ?_)

def spec_plAll.e (k : Nat) : Refl.Ent G := ⟨156, [], .one (.c (.row 27 true)), fun _ => spec_plAll.f k ⟩
def spec_plAll.pl0 : Refl.Pn G (Refl.PT G (spec_plAll.e 0).ol) := ⟨true, 0, ⟨[(1, .v (.c (.row 27 true))), (2, .v (.c li))], []⟩, fun k x => spec_plAll.l0 k x.1 x.2⟩
def spec_plAll.pl1 : Refl.Pn G (Refl.PT G (spec_plAll.e 0).ol) := ⟨true, 2, ⟨[(1, .v (.c (.row 27 true))), (2, .v (.c li)), (3, .v (.c li))], []⟩, fun k x => spec_plAll.l1 k x.1 x.2.1 x.2.2⟩
def spec_plAll.pl2 : Refl.Pn G (Refl.PT G (spec_plAll.e 0).ol) := ⟨true, 4, ⟨[(1, .v (.c (.row 27 true))), (2, .v (.c li)), (3, .v (.c li)), (15, .v (.c (.row 4 false))), (16, .v (.c li)), (17, .v (.c li))], []⟩, fun k x => spec_plAll.l2 k x.1 x.2.1 x.2.2.1 x.2.2.2.1 x.2.2.2.2.1 x.2.2.2.2.2⟩
theorem spec_plAll.ok (k : Nat) : Refl.EntOK Tryz.prog (spec_plAll.e k) := Refl.ent_ok 1000000 k GC (fun k => [spec_plGood.e k]) (fun k => ⟨spec_plGood.ok k, trivial⟩) Tryz.func156 (by kernel_rfl) [spec_plAll.pl0, spec_plAll.pl1, spec_plAll.pl2] (ps := [spec_plAll.pl0, spec_plAll.pl1, spec_plAll.pl2]) (by kernel_rfl) ⟨⟨fun x => by kernel_rfl, fun k x => by kernel_rfl⟩, ⟨fun x => by kernel_rfl, fun k x => by kernel_rfl⟩, ⟨fun x => by kernel_rfl, fun k x => by kernel_rfl⟩, trivial⟩ (fun x => by kernel_rfl)

/-! ### spec_plParse: function 111 -/

def spec_plParse.l0 : Nat → ByteArray → List (S27) → Int → Int → Option (Int × Int × Bool × Bool)
  | 0, _, _, _, _ => none
  | k + 1, x0, x6, x7, x8 => if x8 < x7 then (if 0 ≤ x8 then (if x8 < (x6.length : Int) then ((spec_plText.f ((rd_T27 x6 x8).f0) ((rd_T27 x6 x8).f1) ((rd_T27 x6 x8).f2)).bind fun t174 => (if t174.toList = x0.toList then (some ((rd_T27 x6 x8).f0, (rd_T27 x6 x8).f1, (rd_T27 x6 x8).f2, true)) else (spec_plParse.l0 k x0 x6 x7 (wrap64 (x8 + 1))))) else (none)) else (none)) else (some (0, 0, false, false))

def spec_plParse.f (k : Nat) (a0 : ByteArray) : Option (Int × Int × Bool × Bool) := (spec_plAll.f k).bind fun t169 => (spec_plParse.l0 k a0 t169 (t169.length : Int) 0)

theorem spec_plParse.mono_l : ∀ k, (∀ y0 y1 y2 y3, LeO (spec_plParse.l0 k y0 y1 y2 y3) (spec_plParse.l0 (k + 1) y0 y1 y2 y3))
  | 0 => fun _ _ _ _ r h => by simp [spec_plParse.l0] at h
  | k + 1 => by
    have ih0 := spec_plParse.mono_l k
    · intro y0 y1 y2 y3
      unfold spec_plParse.l0
      repeat' first
      | (with_reducible exact ih0 _ _ _ _)
      | (with_reducible exact spec_plAll.mono _)
      | (with_reducible exact LeO.refl _)
      | (with_reducible exact LeO.none _)
      | (with_reducible refine LeO.ite ?_ ?_)
      | (with_reducible refine LeO.bind ?_ (fun _ => ?_))
      | exact ih0 _ _ _ _
      | exact spec_plAll.mono _
      | exact LeO.none _
      | refine LeO.ite ?_ ?_
      | refine LeO.bind ?_ (fun _ => ?_)

theorem spec_plParse.mono : ∀ a0 k, LeO (spec_plParse.f k a0) (spec_plParse.f (k + 1) a0) := by
  intro a0 k
  have ih0 := spec_plParse.mono_l k
  unfold spec_plParse.f
  repeat' first
      | (with_reducible exact ih0 _ _ _ _)
      | (with_reducible exact spec_plAll.mono _)
      | (with_reducible exact LeO.refl _)
      | (with_reducible exact LeO.none _)
      | (with_reducible refine LeO.ite ?_ ?_)
      | (with_reducible refine LeO.bind ?_ (fun _ => ?_))
      | exact ih0 _ _ _ _
      | exact spec_plAll.mono _
      | exact LeO.none _
      | refine LeO.ite ?_ ?_
      | refine LeO.bind ?_ (fun _ => ?_)

def spec_plParse.e (k : Nat) : Refl.Ent G := ⟨111, [(.c .str)], .tup [(.agg [li, li, .bool]), (.c .bool)], fun x => spec_plParse.f k x⟩
def spec_plParse.pl0 : Refl.Pn G (Refl.PT G (spec_plParse.e 0).ol) := ⟨true, 0, ⟨[(0, .v (.c .str)), (6, .v (.c (.row 27 false))), (7, .v (.c li)), (8, .v (.c li)), (2, .box 2 0), (3, .k (Value.bool false))], [(2, 27, gL1)]⟩, fun k x => spec_plParse.l0 k x.1 x.2.1 x.2.2.1 x.2.2.2⟩
theorem spec_plParse.ok (k : Nat) : Refl.EntOK Tryz.prog (spec_plParse.e k) := Refl.ent_ok 1000000 k GC (fun k => [spec_plAll.e k, spec_plText.e k]) (fun k => ⟨spec_plAll.ok k, spec_plText.ok k, trivial⟩) Tryz.func111 (by kernel_rfl) [spec_plParse.pl0] (ps := [spec_plParse.pl0]) (by kernel_rfl) ⟨⟨fun x => by kernel_rfl, fun k x => by kernel_rfl⟩, trivial⟩ (fun x => by kernel_rfl)

/-! ### spec_imPlaces: function 59 -/

def spec_imPlaces.l0 : Nat → ByteArray → List ByteArray → Int → Int → Option (Int × Int × Bool × Bool)
  | 0, _, _, _, _ => none
  | k + 1, x0, x6, x7, x8 => if x8 < x7 then (if 0 ≤ x8 then (if x8 < (x6.length : Int) then (if (rdOf ByteArray.empty x6 x8).toList = x0.toList then ((some (([(⟨#[99, 104, 101, 115, 116, 42]⟩ : ByteArray), (⟨#[109, 111, 117, 116, 104]⟩ : ByteArray), (⟨#[101, 121, 101]⟩ : ByteArray), (⟨#[115, 112, 97, 99, 101]⟩ : ByteArray)] : List ByteArray) : List ByteArray)).bind fun y180 => (if 0 ≤ x8 then (if x8 < (y180.length : Int) then ((spec_plParse.f k (rdOf ByteArray.empty y180 x8)).bind fun bt184 => (some (bt184.1, bt184.2.1, bt184.2.2.1, bt184.2.2.2))) else (none)) else (none))) else (spec_imPlaces.l0 k x0 x6 x7 (wrap64 (x8 + 1)))) else (none)) else (none)) else (some (0, 0, false, false))

def spec_imPlaces.f (k : Nat) (a0 : ByteArray) : Option (Int × Int × Bool × Bool) := (some (([(⟨#[98, 111, 100, 121]⟩ : ByteArray), (⟨#[102, 97, 99, 101]⟩ : ByteArray), (⟨#[98, 114, 111, 119]⟩ : ByteArray), (⟨#[97, 105, 114]⟩ : ByteArray)] : List ByteArray) : List ByteArray)).bind fun y176 => (spec_imPlaces.l0 k a0 y176 (y176.length : Int) 0)

theorem spec_imPlaces.mono_l : ∀ k, (∀ y0 y1 y2 y3, LeO (spec_imPlaces.l0 k y0 y1 y2 y3) (spec_imPlaces.l0 (k + 1) y0 y1 y2 y3))
  | 0 => fun _ _ _ _ r h => by simp [spec_imPlaces.l0] at h
  | k + 1 => by
    have ih0 := spec_imPlaces.mono_l k
    · intro y0 y1 y2 y3
      unfold spec_imPlaces.l0
      repeat' first
      | (with_reducible exact ih0 _ _ _ _)
      | (with_reducible exact spec_plParse.mono _ _)
      | (with_reducible exact LeO.refl _)
      | (with_reducible exact LeO.none _)
      | (with_reducible refine LeO.ite ?_ ?_)
      | (with_reducible refine LeO.bind ?_ (fun _ => ?_))
      | exact ih0 _ _ _ _
      | exact spec_plParse.mono _ _
      | exact LeO.none _
      | refine LeO.ite ?_ ?_
      | refine LeO.bind ?_ (fun _ => ?_)

theorem spec_imPlaces.mono : ∀ a0 k, LeO (spec_imPlaces.f k a0) (spec_imPlaces.f (k + 1) a0) := by
  intro a0 k
  have ih0 := spec_imPlaces.mono_l k
  unfold spec_imPlaces.f
  repeat' first
      | (with_reducible exact ih0 _ _ _ _)
      | (with_reducible exact spec_plParse.mono _ _)
      | (with_reducible exact LeO.refl _)
      | (with_reducible exact LeO.none _)
      | (with_reducible refine LeO.ite ?_ ?_)
      | (with_reducible refine LeO.bind ?_ (fun _ => ?_))
      | exact ih0 _ _ _ _
      | exact spec_plParse.mono _ _
      | exact LeO.none _
      | refine LeO.ite ?_ ?_
      | refine LeO.bind ?_ (fun _ => ?_)

def spec_imPlaces.e (k : Nat) : Refl.Ent G := ⟨59, [(.c .str)], .tup [(.agg [li, li, .bool]), (.c .bool)], fun x => spec_imPlaces.f k x⟩
def spec_imPlaces.pl0 : Refl.Pn G (Refl.PT G (spec_imPlaces.e 0).ol) := ⟨true, 0, ⟨[(0, .v (.c .str)), (6, .v (.c (.row 9 false))), (7, .v (.c li)), (8, .v (.c li)), (2, .box 2 0), (3, .k (Value.bool false))], [(2, 27, gL1)]⟩, fun k x => spec_imPlaces.l0 k x.1 x.2.1 x.2.2.1 x.2.2.2⟩
theorem spec_imPlaces.ok (k : Nat) : Refl.EntOK Tryz.prog (spec_imPlaces.e k) := Refl.ent_ok 1000000 k GC (fun k => [spec_plParse.e k]) (fun k => ⟨spec_plParse.ok k, trivial⟩) Tryz.func59 (by kernel_rfl) [spec_imPlaces.pl0] (ps := [spec_imPlaces.pl0]) (by kernel_rfl) ⟨⟨fun x => by kernel_rfl, fun k x => by kernel_rfl⟩, trivial⟩ (fun x => by kernel_rfl)

/-! ### spec_l1Num: function 145 -/

def spec_l1Num.f : Nat → Int → Option (ByteArray)
  | 0, _ => none
  | k + 1, a0 => if a0 < 10 then (some (strOfNums (([(wrap64 (48 + a0)) % 256] : List Int)))) else ((spec_l1Num.f k (wrap64 (Int.tdiv a0 10))).bind fun t191 => ((some (([(wrap64 (48 + (Int.tmod a0 10))) % 256] : List Int) : List Int)).bind fun y192 => (if t191.size + (strOfNums y192).size ≤ 9223372036854775807 then (some (t191 ++ (strOfNums y192))) else (none))))

theorem spec_l1Num.mono_l : ∀ k, (∀ y0, LeO (spec_l1Num.f k y0) (spec_l1Num.f (k + 1) y0))
  | 0 => fun _ r h => by simp [spec_l1Num.f] at h
  | k + 1 => by
    have ih0 := spec_l1Num.mono_l k
    · intro y0
      unfold spec_l1Num.f
      repeat' first
      | (with_reducible exact ih0 _)
      | (with_reducible exact LeO.refl _)
      | (with_reducible exact LeO.none _)
      | (with_reducible refine LeO.ite ?_ ?_)
      | (with_reducible refine LeO.bind ?_ (fun _ => ?_))
      | exact ih0 _
      | exact LeO.none _
      | refine LeO.ite ?_ ?_
      | refine LeO.bind ?_ (fun _ => ?_)

theorem spec_l1Num.mono : ∀ a0 k, LeO (spec_l1Num.f k a0) (spec_l1Num.f (k + 1) a0) := by
  intro a0 k
  have ih0 := spec_l1Num.mono_l k
  exact ih0 a0

def spec_l1Num.e (k : Nat) : Refl.Ent G := ⟨145, [(.c li)], .one (.c .str), fun x => spec_l1Num.f k x⟩
theorem spec_l1Num.ok : ∀ k : Nat, Refl.EntOK Tryz.prog (spec_l1Num.e k)
 | 0 => Refl.entOK_none Tryz.func145 (by kernel_rfl) (fun x => by kernel_rfl)
 | k + 1 => Refl.ent_ok 1000000 0 GC (fun _ => [spec_l1Num.e k]) (fun _ => ⟨spec_l1Num.ok k, trivial⟩) Tryz.func145 (by kernel_rfl) [] (ps := []) (by kernel_rfl) trivial (fun x => by kernel_rfl)

/-! ### spec_mvText: function 94 -/

def spec_mvText.f (k : Nat) (a0_0 : ByteArray) (a0_1 : Int) : Option (ByteArray) := if a0_0.toList = ([] : List UInt8) then (some (⟨#[45]⟩ : ByteArray)) else (if a0_1 > 1 then (if a0_0.size + 1 ≤ 9223372036854775807 then ((spec_l1Num.f k a0_1).bind fun t196 => (if (a0_0 ++ (⟨#[42]⟩ : ByteArray)).size + t196.size ≤ 9223372036854775807 then (some ((a0_0 ++ (⟨#[42]⟩ : ByteArray)) ++ t196)) else (none))) else (none)) else (some a0_0))

theorem spec_mvText.mono : ∀ a0 a1 k, LeO (spec_mvText.f k a0 a1) (spec_mvText.f (k + 1) a0 a1) := by
  intro a0 a1 k
  unfold spec_mvText.f
  repeat' first
      | (with_reducible exact spec_l1Num.mono _ _)
      | (with_reducible exact LeO.refl _)
      | (with_reducible exact LeO.none _)
      | (with_reducible refine LeO.ite ?_ ?_)
      | (with_reducible refine LeO.bind ?_ (fun _ => ?_))
      | exact spec_l1Num.mono _ _
      | exact LeO.none _
      | refine LeO.ite ?_ ?_
      | refine LeO.bind ?_ (fun _ => ?_)

def spec_mvText.e (k : Nat) : Refl.Ent G := ⟨94, [(.agg [.str, li])], .one (.c .str), fun x => spec_mvText.f k x.1 x.2⟩
theorem spec_mvText.ok (k : Nat) : Refl.EntOK Tryz.prog (spec_mvText.e k) := Refl.ent_ok 1000000 k GC (fun k => [spec_l1Num.e k]) (fun k => ⟨spec_l1Num.ok k, trivial⟩) Tryz.func94 (by kernel_rfl) [] (ps := []) (by kernel_rfl) trivial (fun x => by kernel_rfl)

/-! ### spec_mvLetters: function 210 -/

def spec_mvLetters.f  : Option (ByteArray) := some (⟨#[117, 100, 108, 114, 102, 98]⟩ : ByteArray)

def spec_mvLetters.e (k : Nat) : Refl.Ent G := ⟨210, [], .one (.c .str), fun _ => spec_mvLetters.f ⟩
theorem spec_mvLetters.ok (k : Nat) : Refl.EntOK Tryz.prog (spec_mvLetters.e k) := Refl.ent_ok 1000000 k GC (fun k => []) (fun k => trivial) Tryz.func210 (by kernel_rfl) [] (ps := []) (by kernel_rfl) trivial (fun x => by kernel_rfl)

/-! ### spec_mvIndex: function 189 -/

def spec_mvIndex.l0 : Nat → Int → Int → Option (Int)
  | 0, _, _ => none
  | k + 1, x0, x3 => (spec_mvLetters.f).bind fun t197 => (if x3 < (t197.size : Int) then ((spec_mvLetters.f).bind fun t198 => (if 0 ≤ x3 then (if x3 < (t198.size : Int) then (if (bt t198 x3) = x0 then (some x3) else (spec_mvIndex.l0 k x0 (wrap64 (x3 + 1)))) else (none)) else (none))) else (some (-1)))

def spec_mvIndex.f (k : Nat) (a0 : Int) : Option (Int) := spec_mvIndex.l0 k a0 0

theorem spec_mvIndex.mono_l : ∀ k, (∀ y0 y1, LeO (spec_mvIndex.l0 k y0 y1) (spec_mvIndex.l0 (k + 1) y0 y1))
  | 0 => fun _ _ r h => by simp [spec_mvIndex.l0] at h
  | k + 1 => by
    have ih0 := spec_mvIndex.mono_l k
    · intro y0 y1
      unfold spec_mvIndex.l0
      repeat' first
      | (with_reducible exact ih0 _ _)
      | (with_reducible exact LeO.refl _)
      | (with_reducible exact LeO.none _)
      | (with_reducible refine LeO.ite ?_ ?_)
      | (with_reducible refine LeO.bind ?_ (fun _ => ?_))
      | exact ih0 _ _
      | exact LeO.none _
      | refine LeO.ite ?_ ?_
      | refine LeO.bind ?_ (fun _ => ?_)

theorem spec_mvIndex.mono : ∀ a0 k, LeO (spec_mvIndex.f k a0) (spec_mvIndex.f (k + 1) a0) := by
  intro a0 k
  have ih0 := spec_mvIndex.mono_l k
  unfold spec_mvIndex.f
  repeat' first
      | (with_reducible exact ih0 _ _)
      | (with_reducible exact LeO.refl _)
      | (with_reducible exact LeO.none _)
      | (with_reducible refine LeO.ite ?_ ?_)
      | (with_reducible refine LeO.bind ?_ (fun _ => ?_))
      | exact ih0 _ _
      | exact LeO.none _
      | refine LeO.ite ?_ ?_
      | refine LeO.bind ?_ (fun _ => ?_)

def spec_mvIndex.e (k : Nat) : Refl.Ent G := ⟨189, [(.c (.int .u8))], .one (.c li), fun x => spec_mvIndex.f k x⟩
def spec_mvIndex.pl0 : Refl.Pn G (Refl.PT G (spec_mvIndex.e 0).ol) := ⟨true, 0, ⟨[(0, .v (.c (.int .u8))), (3, .v (.c li)), (2, .k (Value.int IntKind.i64 0))], []⟩, fun k x => spec_mvIndex.l0 k x.1 x.2⟩
theorem spec_mvIndex.ok (k : Nat) : Refl.EntOK Tryz.prog (spec_mvIndex.e k) := Refl.ent_ok 1000000 k GC (fun k => [spec_mvLetters.e k]) (fun k => ⟨spec_mvLetters.ok k, trivial⟩) Tryz.func189 (by kernel_rfl) [spec_mvIndex.pl0] (ps := [spec_mvIndex.pl0]) (by kernel_rfl) ⟨⟨fun x => by kernel_rfl, fun k x => by kernel_rfl⟩, trivial⟩ (fun x => by kernel_rfl)

/-! ### spec_mvSteps: function 155 -/

def spec_mvSteps.l0 : Nat → ByteArray → Int → Option (Bool)
  | 0, _, _ => none
  | k + 1, x0, x3 => if x3 < (x0.size : Int) then (if 0 ≤ x3 then (if x3 < (x0.size : Int) then ((spec_mvIndex.f k (bt x0 x3)).bind fun t199 => (if t199 < 0 then (some false) else (spec_mvSteps.l0 k x0 (wrap64 (x3 + 1))))) else (none)) else (none)) else (some true)

def spec_mvSteps.f (k : Nat) (a0 : ByteArray) : Option (Bool) := spec_mvSteps.l0 k a0 0

theorem spec_mvSteps.mono_l : ∀ k, (∀ y0 y1, LeO (spec_mvSteps.l0 k y0 y1) (spec_mvSteps.l0 (k + 1) y0 y1))
  | 0 => fun _ _ r h => by simp [spec_mvSteps.l0] at h
  | k + 1 => by
    have ih0 := spec_mvSteps.mono_l k
    · intro y0 y1
      unfold spec_mvSteps.l0
      repeat' first
      | (with_reducible exact ih0 _ _)
      | (with_reducible exact spec_mvIndex.mono _ _)
      | (with_reducible exact LeO.refl _)
      | (with_reducible exact LeO.none _)
      | (with_reducible refine LeO.ite ?_ ?_)
      | (with_reducible refine LeO.bind ?_ (fun _ => ?_))
      | exact ih0 _ _
      | exact spec_mvIndex.mono _ _
      | exact LeO.none _
      | refine LeO.ite ?_ ?_
      | refine LeO.bind ?_ (fun _ => ?_)

theorem spec_mvSteps.mono : ∀ a0 k, LeO (spec_mvSteps.f k a0) (spec_mvSteps.f (k + 1) a0) := by
  intro a0 k
  have ih0 := spec_mvSteps.mono_l k
  unfold spec_mvSteps.f
  repeat' first
      | (with_reducible exact ih0 _ _)
      | (with_reducible exact spec_mvIndex.mono _ _)
      | (with_reducible exact LeO.refl _)
      | (with_reducible exact LeO.none _)
      | (with_reducible refine LeO.ite ?_ ?_)
      | (with_reducible refine LeO.bind ?_ (fun _ => ?_))
      | exact ih0 _ _
      | exact spec_mvIndex.mono _ _
      | exact LeO.none _
      | refine LeO.ite ?_ ?_
      | refine LeO.bind ?_ (fun _ => ?_)

def spec_mvSteps.e (k : Nat) : Refl.Ent G := ⟨155, [(.c .str)], .one (.c .bool), fun x => spec_mvSteps.f k x⟩
def spec_mvSteps.pl0 : Refl.Pn G (Refl.PT G (spec_mvSteps.e 0).ol) := ⟨true, 0, ⟨[(0, .v (.c .str)), (3, .v (.c li)), (2, .k (Value.bool false))], []⟩, fun k x => spec_mvSteps.l0 k x.1 x.2⟩
theorem spec_mvSteps.ok (k : Nat) : Refl.EntOK Tryz.prog (spec_mvSteps.e k) := Refl.ent_ok 1000000 k GC (fun k => [spec_mvIndex.e k]) (fun k => ⟨spec_mvIndex.ok k, trivial⟩) Tryz.func155 (by kernel_rfl) [spec_mvSteps.pl0] (ps := [spec_mvSteps.pl0]) (by kernel_rfl) ⟨⟨fun x => by kernel_rfl, fun k x => by kernel_rfl⟩, trivial⟩ (fun x => by kernel_rfl)

/-! ### spec_mvGood: function 109 -/

def spec_mvGood.f (k : Nat) (a0_0 : ByteArray) (a0_1 : Int) : Option (Bool) := if (a0_0.size : Int) ≤ 6 then ((spec_mvSteps.f k a0_0).bind fun t201 => (if t201 = true then ((spec_l1In.f a0_1 1 3).bind fun t202 => (if t202 = true then (if a0_0.toList = ([] : List UInt8) then (some (a0_1 == 1)) else (some true)) else (some false))) else (some false))) else (some false)

theorem spec_mvGood.mono : ∀ a0 a1 k, LeO (spec_mvGood.f k a0 a1) (spec_mvGood.f (k + 1) a0 a1) := by
  intro a0 a1 k
  unfold spec_mvGood.f
  repeat' first
      | (with_reducible exact spec_mvSteps.mono _ _)
      | (with_reducible exact LeO.refl _)
      | (with_reducible exact LeO.none _)
      | (with_reducible refine LeO.ite ?_ ?_)
      | (with_reducible refine LeO.bind ?_ (fun _ => ?_))
      | exact spec_mvSteps.mono _ _
      | exact LeO.none _
      | refine LeO.ite ?_ ?_
      | refine LeO.bind ?_ (fun _ => ?_)

def spec_mvGood.e (k : Nat) : Refl.Ent G := ⟨109, [(.agg [.str, li])], .one (.c .bool), fun x => spec_mvGood.f k x.1 x.2⟩
theorem spec_mvGood.ok (k : Nat) : Refl.EntOK Tryz.prog (spec_mvGood.e k) := Refl.ent_ok 1000000 k GC (fun k => [spec_mvSteps.e k, spec_l1In.e k]) (fun k => ⟨spec_mvSteps.ok k, spec_l1In.ok k, trivial⟩) Tryz.func109 (by kernel_rfl) [] (ps := []) (by kernel_rfl) trivial (fun x => by kernel_rfl)

/-! ### spec_l1Read: function 178 -/

mutual
def spec_l1Read.j0 : Nat → ByteArray → Bool → Option (Int)
  | 0, _, _ => none
  | k + 1, x0, x18 => if x18 = true then (some (-1)) else (spec_l1Read.l0 k x0 0 0)
def spec_l1Read.l0 : Nat → ByteArray → Int → Int → Option (Int)
  | 0, _, _, _ => none
  | k + 1, x0, x3, x4 => if x4 < (x0.size : Int) then (if 0 ≤ x4 then (if x4 < (x0.size : Int) then (if (bt x0 x4) < 48 then (some (-1)) else (if 0 ≤ x4 then (if x4 < (x0.size : Int) then (if (bt x0 x4) > 57 then (some (-1)) else (if 0 ≤ x4 then (if x4 < (x0.size : Int) then (spec_l1Read.l0 k x0 (wrap64 ((wrap64 (10 * x3)) + (wrap64 (((bt x0 x4) - 48) % 256)))) (wrap64 (x4 + 1))) else (none)) else (none))) else (none)) else (none))) else (none)) else (none)) else (some x3)
end

def spec_l1Read.f (k : Nat) (a0 : ByteArray) : Option (Int) := (spec_l1In.f (a0.size : Int) 1 6).bind fun t203 => (if t203 = true then (if 0 < (a0.size : Int) then (if (bt a0 0) = 48 then (spec_l1Read.j0 k a0 (decide ((a0.size : Int) > 1))) else (spec_l1Read.j0 k a0 false)) else (none)) else (spec_l1Read.j0 k a0 true))

theorem spec_l1Read.mono_l : ∀ k, (∀ y0 y1, LeO (spec_l1Read.j0 k y0 y1) (spec_l1Read.j0 (k + 1) y0 y1)) ∧ (∀ y0 y1 y2, LeO (spec_l1Read.l0 k y0 y1 y2) (spec_l1Read.l0 (k + 1) y0 y1 y2))
  | 0 => ⟨fun _ _ r h => by simp [spec_l1Read.j0] at h, fun _ _ _ r h => by simp [spec_l1Read.l0] at h⟩
  | k + 1 => by
    obtain ⟨ih0, ih1⟩ := spec_l1Read.mono_l k
    refine ⟨?_, ?_⟩
    · intro y0 y1
      unfold spec_l1Read.j0
      repeat' first
      | (with_reducible exact ih0 _ _)
      | (with_reducible exact ih1 _ _ _)
      | (with_reducible exact LeO.refl _)
      | (with_reducible exact LeO.none _)
      | (with_reducible refine LeO.ite ?_ ?_)
      | (with_reducible refine LeO.bind ?_ (fun _ => ?_))
      | exact ih0 _ _
      | exact ih1 _ _ _
      | exact LeO.none _
      | refine LeO.ite ?_ ?_
      | refine LeO.bind ?_ (fun _ => ?_)
    · intro y0 y1 y2
      unfold spec_l1Read.l0
      repeat' first
      | (with_reducible exact ih0 _ _)
      | (with_reducible exact ih1 _ _ _)
      | (with_reducible exact LeO.refl _)
      | (with_reducible exact LeO.none _)
      | (with_reducible refine LeO.ite ?_ ?_)
      | (with_reducible refine LeO.bind ?_ (fun _ => ?_))
      | exact ih0 _ _
      | exact ih1 _ _ _
      | exact LeO.none _
      | refine LeO.ite ?_ ?_
      | refine LeO.bind ?_ (fun _ => ?_)

theorem spec_l1Read.mono : ∀ a0 k, LeO (spec_l1Read.f k a0) (spec_l1Read.f (k + 1) a0) := by
  intro a0 k
  obtain ⟨ih0, ih1⟩ := spec_l1Read.mono_l k
  unfold spec_l1Read.f
  repeat' first
      | (with_reducible exact ih0 _ _)
      | (with_reducible exact ih1 _ _ _)
      | (with_reducible exact LeO.refl _)
      | (with_reducible exact LeO.none _)
      | (with_reducible refine LeO.ite ?_ ?_)
      | (with_reducible refine LeO.bind ?_ (fun _ => ?_))
      | exact ih0 _ _
      | exact ih1 _ _ _
      | exact LeO.none _
      | refine LeO.ite ?_ ?_
      | refine LeO.bind ?_ (fun _ => ?_)

def spec_l1Read.e (k : Nat) : Refl.Ent G := ⟨178, [(.c .str)], .one (.c li), fun x => spec_l1Read.f k x⟩
def spec_l1Read.pj0 : Refl.Pn G (Refl.PT G (spec_l1Read.e 0).ol) := ⟨false, 1000001, ⟨[(0, .v (.c .str)), (18, .v (.c .bool)), (2, .k (Value.int IntKind.i64 0))], []⟩, fun k x => spec_l1Read.j0 k x.1 x.2⟩
def spec_l1Read.pl0 : Refl.Pn G (Refl.PT G (spec_l1Read.e 0).ol) := ⟨true, 0, ⟨[(0, .v (.c .str)), (3, .v (.c li)), (4, .v (.c li)), (2, .k (Value.int IntKind.i64 0))], []⟩, fun k x => spec_l1Read.l0 k x.1 x.2.1 x.2.2⟩
theorem spec_l1Read.ok (k : Nat) : Refl.EntOK Tryz.prog (spec_l1Read.e k) := Refl.ent_ok 1000000 k GC (fun k => [spec_l1In.e k]) (fun k => ⟨spec_l1In.ok k, trivial⟩) Tryz.func178 (by kernel_rfl) [spec_l1Read.pj0, spec_l1Read.pl0] (ps := [spec_l1Read.pj0, spec_l1Read.pl0]) (by kernel_rfl) ⟨⟨fun x => by kernel_rfl, fun k x => by kernel_rfl⟩, ⟨fun x => by kernel_rfl, fun k x => by kernel_rfl⟩, trivial⟩ (fun x => by kernel_rfl)

/-! ### spec_mvParse: function 134 -/

mutual
def spec_mvParse.j0 : Nat → ByteArray → List ByteArray → ByteArray → Int → Option (ByteArray × Int × Bool)
  | 0, _, _, _, _ => none
  | k + 1, x0, x4, x210000, x210001 => if (x4.length : Int) = 2 then (if 1 < (x4.length : Int) then ((spec_l1Read.f k (rdOf ByteArray.empty x4 1)).bind fun t211 => (spec_mvParse.j1 k x0 x4 x210000 t211)) else (none)) else (spec_mvParse.j1 k x0 x4 x210000 x210001)
def spec_mvParse.j1 : Nat → ByteArray → List ByteArray → ByteArray → Int → Option (ByteArray × Int × Bool)
  | 0, _, _, _, _ => none
  | k + 1, x0, x4, x210000, x210001 => if (x4.length : Int) > 2 then (some ((⟨#[]⟩ : ByteArray), 0, false)) else ((spec_mvGood.f k x210000 x210001).bind fun t212 => (if t212 = true then ((spec_mvText.f k x210000 x210001).bind fun t213 => (if t213.toList = x0.toList then (some (x210000, x210001, true)) else (some ((⟨#[]⟩ : ByteArray), 0, false)))) else (some ((⟨#[]⟩ : ByteArray), 0, false))))
end

def spec_mvParse.f (k : Nat) (a0 : ByteArray) : Option (ByteArray × Int × Bool) := (spec_l1Split.f k a0 42).bind fun t205 => (if 0 < (t205.length : Int) then (if a0.toList = ([45] : List UInt8) then (spec_mvParse.j0 k a0 t205 (⟨#[]⟩ : ByteArray) 1) else (spec_mvParse.j0 k a0 t205 (rdOf ByteArray.empty t205 0) 1)) else (none))

theorem spec_mvParse.mono_l : ∀ k, (∀ y0 y1 y2 y3, LeO (spec_mvParse.j0 k y0 y1 y2 y3) (spec_mvParse.j0 (k + 1) y0 y1 y2 y3)) ∧ (∀ y0 y1 y2 y3, LeO (spec_mvParse.j1 k y0 y1 y2 y3) (spec_mvParse.j1 (k + 1) y0 y1 y2 y3))
  | 0 => ⟨fun _ _ _ _ r h => by simp [spec_mvParse.j0] at h, fun _ _ _ _ r h => by simp [spec_mvParse.j1] at h⟩
  | k + 1 => by
    obtain ⟨ih0, ih1⟩ := spec_mvParse.mono_l k
    refine ⟨?_, ?_⟩
    · intro y0 y1 y2 y3
      unfold spec_mvParse.j0
      repeat' first
      | (with_reducible exact ih0 _ _ _ _)
      | (with_reducible exact ih1 _ _ _ _)
      | (with_reducible exact spec_l1Read.mono _ _)
      | (with_reducible exact spec_l1Split.mono _ _ _)
      | (with_reducible exact spec_mvGood.mono _ _ _)
      | (with_reducible exact spec_mvText.mono _ _ _)
      | (with_reducible exact LeO.refl _)
      | (with_reducible exact LeO.none _)
      | (with_reducible refine LeO.ite ?_ ?_)
      | (with_reducible refine LeO.bind ?_ (fun _ => ?_))
      | exact ih0 _ _ _ _
      | exact ih1 _ _ _ _
      | exact spec_l1Read.mono _ _
      | exact spec_l1Split.mono _ _ _
      | exact spec_mvGood.mono _ _ _
      | exact spec_mvText.mono _ _ _
      | exact LeO.none _
      | refine LeO.ite ?_ ?_
      | refine LeO.bind ?_ (fun _ => ?_)
    · intro y0 y1 y2 y3
      unfold spec_mvParse.j1
      repeat' first
      | (with_reducible exact ih0 _ _ _ _)
      | (with_reducible exact ih1 _ _ _ _)
      | (with_reducible exact spec_l1Read.mono _ _)
      | (with_reducible exact spec_l1Split.mono _ _ _)
      | (with_reducible exact spec_mvGood.mono _ _ _)
      | (with_reducible exact spec_mvText.mono _ _ _)
      | (with_reducible exact LeO.refl _)
      | (with_reducible exact LeO.none _)
      | (with_reducible refine LeO.ite ?_ ?_)
      | (with_reducible refine LeO.bind ?_ (fun _ => ?_))
      | exact ih0 _ _ _ _
      | exact ih1 _ _ _ _
      | exact spec_l1Read.mono _ _
      | exact spec_l1Split.mono _ _ _
      | exact spec_mvGood.mono _ _ _
      | exact spec_mvText.mono _ _ _
      | exact LeO.none _
      | refine LeO.ite ?_ ?_
      | refine LeO.bind ?_ (fun _ => ?_)

theorem spec_mvParse.mono : ∀ a0 k, LeO (spec_mvParse.f k a0) (spec_mvParse.f (k + 1) a0) := by
  intro a0 k
  obtain ⟨ih0, ih1⟩ := spec_mvParse.mono_l k
  unfold spec_mvParse.f
  repeat' first
      | (with_reducible exact ih0 _ _ _ _)
      | (with_reducible exact ih1 _ _ _ _)
      | (with_reducible exact spec_l1Read.mono _ _)
      | (with_reducible exact spec_l1Split.mono _ _ _)
      | (with_reducible exact spec_mvGood.mono _ _ _)
      | (with_reducible exact spec_mvText.mono _ _ _)
      | (with_reducible exact LeO.refl _)
      | (with_reducible exact LeO.none _)
      | (with_reducible refine LeO.ite ?_ ?_)
      | (with_reducible refine LeO.bind ?_ (fun _ => ?_))
      | exact ih0 _ _ _ _
      | exact ih1 _ _ _ _
      | exact spec_l1Read.mono _ _
      | exact spec_l1Split.mono _ _ _
      | exact spec_mvGood.mono _ _ _
      | exact spec_mvText.mono _ _ _
      | exact LeO.none _
      | refine LeO.ite ?_ ?_
      | refine LeO.bind ?_ (fun _ => ?_)

def spec_mvParse.e (k : Nat) : Refl.Ent G := ⟨134, [(.c .str)], .tup [(.agg [.str, li]), (.c .bool)], fun x => spec_mvParse.f k x⟩
def spec_mvParse.pj0 : Refl.Pn G (Refl.PT G (spec_mvParse.e 0).ol) := ⟨false, 5, ⟨[(0, .v (.c .str)), (4, .v (.c (.row 9 false))), (5, .box 5 0), (2, .box 2 0), (3, .k (Value.bool false))], [(5, 29, gL2), (2, 29, gL3)]⟩, fun k x => spec_mvParse.j0 k x.1 x.2.1 x.2.2.1 x.2.2.2⟩
def spec_mvParse.pj1 : Refl.Pn G (Refl.PT G (spec_mvParse.e 0).ol) := ⟨false, 7, ⟨[(0, .v (.c .str)), (4, .v (.c (.row 9 false))), (5, .box 5 0), (2, .box 2 0), (3, .k (Value.bool false))], [(5, 29, gL2), (2, 29, gL3)]⟩, fun k x => spec_mvParse.j1 k x.1 x.2.1 x.2.2.1 x.2.2.2⟩
theorem spec_mvParse.ok (k : Nat) : Refl.EntOK Tryz.prog (spec_mvParse.e k) := Refl.ent_ok 1000000 k GC (fun k => [spec_l1Split.e k, spec_l1Read.e k, spec_mvGood.e k, spec_mvText.e k]) (fun k => ⟨spec_l1Split.ok k, spec_l1Read.ok k, spec_mvGood.ok k, spec_mvText.ok k, trivial⟩) Tryz.func134 (by kernel_rfl) [spec_mvParse.pj0, spec_mvParse.pj1] (ps := [spec_mvParse.pj0, spec_mvParse.pj1]) (by kernel_rfl) ⟨⟨fun x => by kernel_rfl, fun k x => by kernel_rfl⟩, ⟨fun x => by kernel_rfl, fun k x => by kernel_rfl⟩, trivial⟩ (fun x => by kernel_rfl)

end Go.Proofs.YtcicpmhcmlfhbaaGreatDoor.PA
