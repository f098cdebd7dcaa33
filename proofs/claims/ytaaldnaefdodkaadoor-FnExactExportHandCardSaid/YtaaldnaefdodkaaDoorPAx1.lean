-- Written by a program of this session (wip/tools/myprint.py). Not trusted: Lean checks it.
import Derived.Test.YtaaldnaefdodkaaDoorCtx
namespace Go.Proofs.YtaaldnaefdodkaaDoor.PA
open Go.RowKit Go.Proofs.YtaaldnaefdodkaaDoorW.PrintWords Go.Proofs.YtaaldnaefdodkaaDoorW.PrintLast Go.Proofs.YtaaldnaefdodkaaDoorW.PrintMore
attribute [local go_sem] max2_int min2_int max_two min_two max_three min_three max_four min_four   -- for this text's walks alone
set_option linter.unusedVariables false
set_option linter.unusedSimpArgs false

/-! ### laws_szMove: function 8 -/

def laws_szMove.f (a0_0 : ByteArray) (a0_1 : Int) (a1 : Int) : Option (Int) := if (wrap64 (a1 - (a0_0.size : Int))) < 0 then (some (-1)) else (some (wrap64 (a1 - (a0_0.size : Int))))

def laws_szMove.e (k : Nat) : Refl.Ent G := ⟨8, [(.agg [.str, li]), (.c li)], .one (.c li), fun x => laws_szMove.f x.1 x.2.1 x.2.2⟩
theorem laws_szMove.ok (k : Nat) : Refl.EntOK Tryd.prog (laws_szMove.e k) := Refl.ent_ok 1000000 k GC (fun k => []) (fun k => trivial) Tryd.func8 (by kernel_rfl) [] (ps := []) (by kernel_rfl) trivial (fun x => by kernel_rfl)

/-! ### laws_szHand: function 4 -/

def laws_szHand.f (a0_0 : Int) (a0_1 : Int) (a0_2 : Int) (a0_3 : Int) (a0_4 : Int) (a0_5 : Bool) (a0_6 : Int) (a0_7 : Int) (a0_8 : Int) (a0_9 : Int) (a0_10 : Bool) (a0_11 : ByteArray) (a0_12 : Int) (a1 : Int) : Option (Int) := (laws_szMove.f a0_11 a0_12 a1).bind fun t103 => (if t103 < 0 then (some (-1)) else (some t103))

def laws_szHand.e (k : Nat) : Refl.Ent G := ⟨4, [(.agg gL0), (.c li)], .one (.c li), fun x => laws_szHand.f x.1 x.2.1 x.2.2.1 x.2.2.2.1 x.2.2.2.2.1 x.2.2.2.2.2.1 x.2.2.2.2.2.2.1 x.2.2.2.2.2.2.2.1 x.2.2.2.2.2.2.2.2.1 x.2.2.2.2.2.2.2.2.2.1 x.2.2.2.2.2.2.2.2.2.2.1 x.2.2.2.2.2.2.2.2.2.2.2.1 x.2.2.2.2.2.2.2.2.2.2.2.2.1 x.2.2.2.2.2.2.2.2.2.2.2.2.2⟩
theorem laws_szHand.ok (k : Nat) : Refl.EntOK Tryd.prog (laws_szHand.e k) := Refl.ent_ok 1000000 k GC (fun k => [laws_szMove.e k]) (fun k => ⟨laws_szMove.ok k, trivial⟩) Tryd.func4 (by kernel_rfl) [] (ps := []) (by kernel_rfl) trivial (fun x => by kernel_rfl)

/-! ### spec_l1In: function 33 -/

def spec_l1In.f (a0 : Int) (a1 : Int) (a2 : Int) : Option (Bool) := if a0 ≥ a1 then (some (decide (a0 ≤ a2))) else (some false)

def spec_l1In.e (k : Nat) : Refl.Ent G := ⟨33, [(.c li), (.c li), (.c li)], .one (.c .bool), fun x => spec_l1In.f x.1 x.2.1 x.2.2⟩
theorem spec_l1In.ok (k : Nat) : Refl.EntOK Tryd.prog (spec_l1In.e k) := Refl.ent_ok 1000000 k GC (fun k => []) (fun k => trivial) Tryd.func33 (by kernel_rfl) [] (ps := []) (by kernel_rfl) trivial (fun x => by kernel_rfl)

/-! ### spec_l1All: function 34 -/

def spec_l1All.l0 : Nat → Int → Int → List Int → Int → Int → Option (Bool)
  | 0, _, _, _, _, _ => none
  | k + 1, x1, x2, x9, x10, x11 => if x11 < x10 then (if 0 ≤ x11 then (if x11 < (x9.length : Int) then ((spec_l1In.f (rd x9 x11) x1 x2).bind fun t105 => (if t105 = true then (spec_l1All.l0 k x1 x2 x9 x10 (wrap64 (x11 + 1))) else (some false))) else (none)) else (none)) else (some true)

def spec_l1All.f (k : Nat) (l0 : List Int) (a1 : Int) (a2 : Int) : Option (Bool) := spec_l1All.l0 k a1 a2 l0 (l0.length : Int) 0

theorem spec_l1All.mono_l : ∀ k, (∀ y0 y1 y2 y3 y4, LeO (spec_l1All.l0 k y0 y1 y2 y3 y4) (spec_l1All.l0 (k + 1) y0 y1 y2 y3 y4))
  | 0 => fun _ _ _ _ _ r h => by simp [spec_l1All.l0] at h
  | k + 1 => by
    have ih0 := spec_l1All.mono_l k
    · intro y0 y1 y2 y3 y4
      unfold spec_l1All.l0
      repeat' first
      | (with_reducible exact ih0 _ _ _ _ _)
      | (with_reducible exact LeO.refl _)
      | (with_reducible exact LeO.none _)
      | (with_reducible refine LeO.ite ?_ ?_)
      | (with_reducible refine LeO.bind ?_ (fun _ => ?_))
      | exact ih0 _ _ _ _ _
      | exact LeO.none _
      | refine LeO.ite ?_ ?_
      | refine LeO.bind ?_ (fun _ => ?_)

theorem spec_l1All.mono : ∀ a0 a1 a2 k, LeO (spec_l1All.f k a0 a1 a2) (spec_l1All.f (k + 1) a0 a1 a2) := by
  intro a0 a1 a2 k
  have ih0 := spec_l1All.mono_l k
  unfold spec_l1All.f
  repeat' first
      | (with_reducible exact ih0 _ _ _ _ _)
      | (with_reducible exact LeO.refl _)
      | (with_reducible exact LeO.none _)
      | (with_reducible refine LeO.ite ?_ ?_)
      | (with_reducible refine LeO.bind ?_ (fun _ => ?_))
      | exact ih0 _ _ _ _ _
      | exact LeO.none _
      | refine LeO.ite ?_ ?_
      | refine LeO.bind ?_ (fun _ => ?_)

def spec_l1All.e (k : Nat) : Refl.Ent G := ⟨34, [(.c (.row 3 false)), (.c li), (.c li)], .one (.c .bool), fun x => spec_l1All.f k x.1 x.2.1 x.2.2⟩
def spec_l1All.pl0 : Refl.Pn G (Refl.PT G (spec_l1All.e 0).ol) := ⟨true, 0, ⟨[(1, .v (.c li)), (2, .v (.c li)), (9, .v (.c (.row 3 false))), (10, .v (.c li)), (11, .v (.c li)), (6, .k (Value.bool false))], []⟩, fun k x => spec_l1All.l0 k x.1 x.2.1 x.2.2.1 x.2.2.2.1 x.2.2.2.2⟩
theorem spec_l1All.ok (k : Nat) : Refl.EntOK Tryd.prog (spec_l1All.e k) := Refl.ent_ok 1000000 k GC (fun k => [spec_l1In.e k]) (fun k => ⟨spec_l1In.ok k, trivial⟩) Tryd.func34 (by kernel_rfl) [spec_l1All.pl0] (ps := [spec_l1All.pl0]) (by kernel_rfl) ⟨⟨fun x => by kernel_rfl, fun k x => by kernel_rfl⟩, trivial⟩ (fun x => by kernel_rfl)

/-! ### spec_shFingers: function 35 -/

def spec_shFingers.f (a0_0 : Int) (a0_1 : Int) (a0_2 : Int) (a0_3 : Int) (a0_4 : Int) (a0_5 : Bool) : Option (List Int) := some (([a0_1, a0_2, a0_3, a0_4] : List Int))

def spec_shFingers.e (k : Nat) : Refl.Ent G := ⟨35, [(.agg [li, li, li, li, li, .bool])], .one (.c (.row 3 true)), fun x => spec_shFingers.f x.1 x.2.1 x.2.2.1 x.2.2.2.1 x.2.2.2.2.1 x.2.2.2.2.2⟩
theorem spec_shFingers.ok (k : Nat) : Refl.EntOK Tryd.prog (spec_shFingers.e k) := Refl.ent_ok 1000000 k GC (fun k => []) (fun k => trivial) Tryd.func35 (by kernel_rfl) [] (ps := []) (by kernel_rfl) trivial (fun x => by kernel_rfl)

/-! ### spec_shWide: function 36 -/

def spec_shWide.l0 : Nat → List Int → Int → Option (Bool)
  | 0, _, _ => none
  | k + 1, x3, x4 => if x4 < 4 then (if 0 ≤ (wrap64 (x4 - 1)) then (if (wrap64 (x4 - 1)) < (x3.length : Int) then (if (rd x3 (wrap64 (x4 - 1))) = 0 then (if 0 ≤ x4 then (if x4 < (x3.length : Int) then (if (rd x3 x4) = 0 then (some true) else (spec_shWide.l0 k x3 (wrap64 (x4 + 1)))) else (none)) else (none)) else (spec_shWide.l0 k x3 (wrap64 (x4 + 1)))) else (none)) else (none)) else (some false)

def spec_shWide.f (k : Nat) (a0_0 : Int) (a0_1 : Int) (a0_2 : Int) (a0_3 : Int) (a0_4 : Int) (a0_5 : Bool) : Option (Bool) := (spec_shFingers.f a0_0 a0_1 a0_2 a0_3 a0_4 a0_5).bind fun t111 => (spec_shWide.l0 k t111 1)

theorem spec_shWide.mono_l : ∀ k, (∀ y0 y1, LeO (spec_shWide.l0 k y0 y1) (spec_shWide.l0 (k + 1) y0 y1))
  | 0 => fun _ _ r h => by simp [spec_shWide.l0] at h
  | k + 1 => by
    have ih0 := spec_shWide.mono_l k
    · intro y0 y1
      unfold spec_shWide.l0
      repeat' first
      | (with_reducible exact ih0 _ _)
      | (with_reducible exact LeO.refl _)
      | (with_reducible exact LeO.none _)
      | (with_reducible refine LeO.ite ?_ ?_)
      | (with_reducible refine LeO.bind ?_ (fun _ => ?_))
      | exact ih0 _ _
      | exact LeO.none _
      | refine LeO.ite ?_ ?_
      | refine LeO.bind ?_ (fun _ => ?_)

theorem spec_shWide.mono : ∀ a0 a1 a2 a3 a4 a5 k, LeO (spec_shWide.f k a0 a1 a2 a3 a4 a5) (spec_shWide.f (k + 1) a0 a1 a2 a3 a4 a5) := by
  intro a0 a1 a2 a3 a4 a5 k
  have ih0 := spec_shWide.mono_l k
  unfold spec_shWide.f
  repeat' first
      | (with_reducible exact ih0 _ _)
      | (with_reducible exact LeO.refl _)
      | (with_reducible exact LeO.none _)
      | (with_reducible refine LeO.ite ?_ ?_)
      | (with_reducible refine LeO.bind ?_ (fun _ => ?_))
      | exact ih0 _ _
      | exact LeO.none _
      | refine LeO.ite ?_ ?_
      | refine LeO.bind ?_ (fun _ => ?_)

def spec_shWide.e (k : Nat) : Refl.Ent G := ⟨36, [(.agg [li, li, li, li, li, .bool])], .one (.c .bool), fun x => spec_shWide.f k x.1 x.2.1 x.2.2.1 x.2.2.2.1 x.2.2.2.2.1 x.2.2.2.2.2⟩
def spec_shWide.pl0 : Refl.Pn G (Refl.PT G (spec_shWide.e 0).ol) := ⟨true, 0, ⟨[(3, .v (.c (.row 3 false))), (4, .v (.c li)), (2, .k (Value.bool false))], []⟩, fun k x => spec_shWide.l0 k x.1 x.2⟩
theorem spec_shWide.ok (k : Nat) : Refl.EntOK Tryd.prog (spec_shWide.e k) := Refl.ent_ok 1000000 k GC (fun k => [spec_shFingers.e k]) (fun k => ⟨spec_shFingers.ok k, trivial⟩) Tryd.func36 (by kernel_rfl) [spec_shWide.pl0] (ps := [spec_shWide.pl0]) (by kernel_rfl) ⟨⟨fun x => by kernel_rfl, fun k x => by kernel_rfl⟩, trivial⟩ (fun x => by kernel_rfl)

/-! ### spec_shGood: function 17 -/

def spec_shGood.f (k : Nat) (a0_0 : Int) (a0_1 : Int) (a0_2 : Int) (a0_3 : Int) (a0_4 : Int) (a0_5 : Bool) : Option (Bool) := (spec_l1In.f a0_0 0 2).bind fun t117 => (if t117 = true then ((spec_shFingers.f a0_0 a0_1 a0_2 a0_3 a0_4 a0_5).bind fun t118 => ((spec_l1All.f k t118 0 2).bind fun t121 => (if t121 = true then (if a0_5 = true then ((spec_shWide.f k a0_0 a0_1 a0_2 a0_3 a0_4 a0_5).bind fun t122 => (some t122)) else (some true)) else (some false)))) else (some false))

theorem spec_shGood.mono : ∀ a0 a1 a2 a3 a4 a5 k, LeO (spec_shGood.f k a0 a1 a2 a3 a4 a5) (spec_shGood.f (k + 1) a0 a1 a2 a3 a4 a5) := by
  intro a0 a1 a2 a3 a4 a5 k
  unfold spec_shGood.f
  repeat' first
      | (with_reducible exact spec_l1All.mono _ _ _ _)
      | (with_reducible exact spec_shWide.mono _ _ _ _ _ _ _)
      | (with_reducible exact LeO.refl _)
      | (with_reducible exact LeO.none _)
      | (with_reducible refine LeO.ite ?_ ?_)
      | (with_reducible refine LeO.bind ?_ (fun _ => ?_))
      | exact spec_l1All.mono _ _ _ _
      | exact spec_shWide.mono _ _ _ _ _ _ _
      | exact LeO.none _
      | refine LeO.ite ?_ ?_
      | refine LeO.bind ?_ (fun _ => ?_)

def spec_shGood.e (k : Nat) : Refl.Ent G := ⟨17, [(.agg [li, li, li, li, li, .bool])], .one (.c .bool), fun x => spec_shGood.f k x.1 x.2.1 x.2.2.1 x.2.2.2.1 x.2.2.2.2.1 x.2.2.2.2.2⟩
theorem spec_shGood.ok (k : Nat) : Refl.EntOK Tryd.prog (spec_shGood.e k) := Refl.ent_ok 1000000 k GC (fun k => [spec_l1In.e k, spec_shFingers.e k, spec_l1All.e k, spec_shWide.e k]) (fun k => ⟨spec_l1In.ok k, spec_shFingers.ok k, spec_l1All.ok k, spec_shWide.ok k, trivial⟩) Tryd.func17 (by kernel_rfl) [] (ps := []) (by kernel_rfl) trivial (fun x => by kernel_rfl)

/-! ### spec_orDir: function 37 -/

def spec_orDir.f (a0 : Int) : Option (Bool) := (spec_l1In.f a0 0 5).bind fun t123 => (some t123)

def spec_orDir.e (k : Nat) : Refl.Ent G := ⟨37, [(.c li)], .one (.c .bool), fun x => spec_orDir.f x⟩
theorem spec_orDir.ok (k : Nat) : Refl.EntOK Tryd.prog (spec_orDir.e k) := Refl.ent_ok 1000000 k GC (fun k => [spec_l1In.e k]) (fun k => ⟨spec_l1In.ok k, trivial⟩) Tryd.func37 (by kernel_rfl) [] (ps := []) (by kernel_rfl) trivial (fun x => by kernel_rfl)

/-! ### spec_orOpposite: function 38 -/

def spec_orOpposite.f (a0 : Int) : Option (Int) := if (Int.tmod a0 2) = 0 then (some (wrap64 (a0 + 1))) else (some (wrap64 (a0 - 1)))

def spec_orOpposite.e (k : Nat) : Refl.Ent G := ⟨38, [(.c li)], .one (.c li), fun x => spec_orOpposite.f x⟩
theorem spec_orOpposite.ok (k : Nat) : Refl.EntOK Tryd.prog (spec_orOpposite.e k) := Refl.ent_ok 1000000 k GC (fun k => []) (fun k => trivial) Tryd.func38 (by kernel_rfl) [] (ps := []) (by kernel_rfl) trivial (fun x => by kernel_rfl)

/-! ### spec_orGood: function 18 -/

def spec_orGood.f (a0_0 : Int) (a0_1 : Int) : Option (Bool) := (spec_orDir.f a0_0).bind fun t125 => (if t125 = true then ((spec_orDir.f a0_1).bind fun t126 => (if t126 = true then (if a0_0 = a0_1 then (some false) else ((spec_orOpposite.f a0_1).bind fun t127 => (some (a0_0 != t127)))) else (some false))) else (some false))

def spec_orGood.e (k : Nat) : Refl.Ent G := ⟨18, [(.agg [li, li])], .one (.c .bool), fun x => spec_orGood.f x.1 x.2⟩
theorem spec_orGood.ok (k : Nat) : Refl.EntOK Tryd.prog (spec_orGood.e k) := Refl.ent_ok 1000000 k GC (fun k => [spec_orDir.e k, spec_orOpposite.e k]) (fun k => ⟨spec_orDir.ok k, spec_orOpposite.ok k, trivial⟩) Tryd.func18 (by kernel_rfl) [] (ps := []) (by kernel_rfl) trivial (fun x => by kernel_rfl)

/-! ### spec_plGood: function 19 -/

def spec_plGood.f (a0_0 : Int) (a0_1 : Int) (a0_2 : Bool) : Option (Bool) := (spec_l1In.f a0_0 0 9).bind fun t129 => (if t129 = true then ((spec_l1In.f a0_1 (-1) 1).bind fun t130 => (if t130 = true then (if a0_0 > 0 then (some true) else (some (!a0_2))) else (some false))) else (some false))

def spec_plGood.e (k : Nat) : Refl.Ent G := ⟨19, [(.agg [li, li, .bool])], .one (.c .bool), fun x => spec_plGood.f x.1 x.2.1 x.2.2⟩
theorem spec_plGood.ok (k : Nat) : Refl.EntOK Tryd.prog (spec_plGood.e k) := Refl.ent_ok 1000000 k GC (fun k => [spec_l1In.e k]) (fun k => ⟨spec_l1In.ok k, trivial⟩) Tryd.func19 (by kernel_rfl) [] (ps := []) (by kernel_rfl) trivial (fun x => by kernel_rfl)

/-! ### spec_mvLetters: function 53 -/

def spec_mvLetters.f  : Option (ByteArray) := some (⟨#[117, 100, 108, 114, 102, 98]⟩ : ByteArray)

def spec_mvLetters.e (k : Nat) : Refl.Ent G := ⟨53, [], .one (.c .str), fun _ => spec_mvLetters.f ⟩
theorem spec_mvLetters.ok (k : Nat) : Refl.EntOK Tryd.prog (spec_mvLetters.e k) := Refl.ent_ok 1000000 k GC (fun k => []) (fun k => trivial) Tryd.func53 (by kernel_rfl) [] (ps := []) (by kernel_rfl) trivial (fun x => by kernel_rfl)

/-! ### spec_mvIndex: function 48 -/

def spec_mvIndex.l0 : Nat → Int → Int → Option (Int)
  | 0, _, _ => none
  | k + 1, x0, x3 => (spec_mvLetters.f).bind fun t131 => (if x3 < (t131.size : Int) then ((spec_mvLetters.f).bind fun t132 => (if 0 ≤ x3 then (if x3 < (t132.size : Int) then (if (bt t132 x3) = x0 then (some x3) else (spec_mvIndex.l0 k x0 (wrap64 (x3 + 1)))) else (none)) else (none))) else (some (-1)))

def spec_mvIndex.f (k : Nat) (a0 : Int) : Option (Int) := spec_mvIndex.l0 k a0 0

theorem spec_mvIndex.mono_l : ∀ k, (∀ y0 y1, LeO (spec_mvIndex.l0 k y0 y1) (spec_mvIndex.l0 (k + 1) y0 y1))
  | 0 => fun _ _ r h => by simp [spec_mvIndex.l0] at h
  | k + 1 => by
    have ih0 := spec_mvIndex.mono_l k
    · intro y0 y1
      unfold spec_mvIndex.l0
      repeat' first
      | (with_reducible exact ih0 _ _)
      | (with_reducible exact LeO.refl _)
      | (with_reducible exact LeO.none _)
      | (with_reducible refine LeO.ite ?_ ?_)
      | (with_reducible refine LeO.bind ?_ (fun _ => ?_))
      | exact ih0 _ _
      | exact LeO.none _
      | refine LeO.ite ?_ ?_
      | refine LeO.bind ?_ (fun _ => ?_)

theorem spec_mvIndex.mono : ∀ a0 k, LeO (spec_mvIndex.f k a0) (spec_mvIndex.f (k + 1) a0) := by
  intro a0 k
  have ih0 := spec_mvIndex.mono_l k
  unfold spec_mvIndex.f
  repeat' first
      | (with_reducible exact ih0 _ _)
      | (with_reducible exact LeO.refl _)
      | (with_reducible exact LeO.none _)
      | (with_reducible refine LeO.ite ?_ ?_)
      | (with_reducible refine LeO.bind ?_ (fun _ => ?_))
      | exact ih0 _ _
      | exact LeO.none _
      | refine LeO.ite ?_ ?_
      | refine LeO.bind ?_ (fun _ => ?_)

def spec_mvIndex.e (k : Nat) : Refl.Ent G := ⟨48, [(.c (.int .u8))], .one (.c li), fun x => spec_mvIndex.f k x⟩
def spec_mvIndex.pl0 : Refl.Pn G (Refl.PT G (spec_mvIndex.e 0).ol) := ⟨true, 0, ⟨[(0, .v (.c (.int .u8))), (3, .v (.c li)), (2, .k (Value.int IntKind.i64 0))], []⟩, fun k x => spec_mvIndex.l0 k x.1 x.2⟩
theorem spec_mvIndex.ok (k : Nat) : Refl.EntOK Tryd.prog (spec_mvIndex.e k) := Refl.ent_ok 1000000 k GC (fun k => [spec_mvLetters.e k]) (fun k => ⟨spec_mvLetters.ok k, trivial⟩) Tryd.func48 (by kernel_rfl) [spec_mvIndex.pl0] (ps := [spec_mvIndex.pl0]) (by kernel_rfl) ⟨⟨fun x => by kernel_rfl, fun k x => by kernel_rfl⟩, trivial⟩ (fun x => by kernel_rfl)

/-! ### spec_mvSteps: function 39 -/

def spec_mvSteps.l0 : Nat → ByteArray → Int → Option (Bool)
  | 0, _, _ => none
  | k + 1, x0, x3 => if x3 < (x0.size : Int) then (if 0 ≤ x3 then (if x3 < (x0.size : Int) then ((spec_mvIndex.f k (bt x0 x3)).bind fun t133 => (if t133 < 0 then (some false) else (spec_mvSteps.l0 k x0 (wrap64 (x3 + 1))))) else (none)) else (none)) else (some true)

def spec_mvSteps.f (k : Nat) (a0 : ByteArray) : Option (Bool) := spec_mvSteps.l0 k a0 0

theorem spec_mvSteps.mono_l : ∀ k, (∀ y0 y1, LeO (spec_mvSteps.l0 k y0 y1) (spec_mvSteps.l0 (k + 1) y0 y1))
  | 0 => fun _ _ r h => by simp [spec_mvSteps.l0] at h
  | k + 1 => by
    have ih0 := spec_mvSteps.mono_l k
    · intro y0 y1
      unfold spec_mvSteps.l0
      repeat' first
      | (with_reducible exact ih0 _ _)
      | (with_reducible exact spec_mvIndex.mono _ _)
      | (with_reducible exact LeO.refl _)
      | (with_reducible exact LeO.none _)
      | (with_reducible refine LeO.ite ?_ ?_)
      | (with_reducible refine LeO.bind ?_ (fun _ => ?_))
      | exact ih0 _ _
      | exact spec_mvIndex.mono _ _
      | exact LeO.none _
      | refine LeO.ite ?_ ?_
      | refine LeO.bind ?_ (fun _ => ?_)

theorem spec_mvSteps.mono : ∀ a0 k, LeO (spec_mvSteps.f k a0) (spec_mvSteps.f (k + 1) a0) := by
  intro a0 k
  have ih0 := spec_mvSteps.mono_l k
  unfold spec_mvSteps.f
  repeat' first
      | (with_reducible exact ih0 _ _)
      | (with_reducible exact spec_mvIndex.mono _ _)
      | (with_reducible exact LeO.refl _)
      | (with_reducible exact LeO.none _)
      | (with_reducible refine LeO.ite ?_ ?_)
      | (with_reducible refine LeO.bind ?_ (fun _ => ?_))
      | exact ih0 _ _
      | exact spec_mvIndex.mono _ _
      | exact LeO.none _
      | refine LeO.ite ?_ ?_
      | refine LeO.bind ?_ (fun _ => ?_)

def spec_mvSteps.e (k : Nat) : Refl.Ent G := ⟨39, [(.c .str)], .one (.c .bool), fun x => spec_mvSteps.f k x⟩
def spec_mvSteps.pl0 : Refl.Pn G (Refl.PT G (spec_mvSteps.e 0).ol) := ⟨true, 0, ⟨[(0, .v (.c .str)), (3, .v (.c li)), (2, .k (Value.bool false))], []⟩, fun k x => spec_mvSteps.l0 k x.1 x.2⟩
theorem spec_mvSteps.ok (k : Nat) : Refl.EntOK Tryd.prog (spec_mvSteps.e k) := Refl.ent_ok 1000000 k GC (fun k => [spec_mvIndex.e k]) (fun k => ⟨spec_mvIndex.ok k, trivial⟩) Tryd.func39 (by kernel_rfl) [spec_mvSteps.pl0] (ps := [spec_mvSteps.pl0]) (by kernel_rfl) ⟨⟨fun x => by kernel_rfl, fun k x => by kernel_rfl⟩, trivial⟩ (fun x => by kernel_rfl)

/-! ### spec_mvGood: function 20 -/

def spec_mvGood.f (k : Nat) (a0_0 : ByteArray) (a0_1 : Int) : Option (Bool) := if (a0_0.size : Int) ≤ 6 then ((spec_mvSteps.f k a0_0).bind fun t135 => (if t135 = true then ((spec_l1In.f a0_1 1 3).bind fun t136 => (if t136 = true then (if a0_0.toList = ([] : List UInt8) then (some (a0_1 == 1)) else (some true)) else (some false))) else (some false))) else (some false)

theorem spec_mvGood.mono : ∀ a0 a1 k, LeO (spec_mvGood.f k a0 a1) (spec_mvGood.f (k + 1) a0 a1) := by
  intro a0 a1 k
  unfold spec_mvGood.f
  repeat' first
      | (with_reducible exact spec_mvSteps.mono _ _)
      | (with_reducible exact LeO.refl _)
      | (with_reducible exact LeO.none _)
      | (with_reducible refine LeO.ite ?_ ?_)
      | (with_reducible refine LeO.bind ?_ (fun _ => ?_))
      | exact spec_mvSteps.mono _ _
      | exact LeO.none _
      | refine LeO.ite ?_ ?_
      | refine LeO.bind ?_ (fun _ => ?_)

def spec_mvGood.e (k : Nat) : Refl.Ent G := ⟨20, [(.agg [.str, li])], .one (.c .bool), fun x => spec_mvGood.f k x.1 x.2⟩
theorem spec_mvGood.ok (k : Nat) : Refl.EntOK Tryd.prog (spec_mvGood.e k) := Refl.ent_ok 1000000 k GC (fun k => [spec_mvSteps.e k, spec_l1In.e k]) (fun k => ⟨spec_mvSteps.ok k, spec_l1In.ok k, trivial⟩) Tryd.func20 (by kernel_rfl) [] (ps := []) (by kernel_rfl) trivial (fun x => by kernel_rfl)

/-! ### spec_siHand: function 9 -/

def spec_siHand.f (k : Nat) (a0_0 : Int) (a0_1 : Int) (a0_2 : Int) (a0_3 : Int) (a0_4 : Int) (a0_5 : Bool) (a0_6 : Int) (a0_7 : Int) (a0_8 : Int) (a0_9 : Int) (a0_10 : Bool) (a0_11 : ByteArray) (a0_12 : Int) : Option (Bool) := (spec_shGood.f k a0_0 a0_1 a0_2 a0_3 a0_4 a0_5).bind fun t138 => (if t138 = true then ((spec_orGood.f a0_6 a0_7).bind fun t139 => (if t139 = true then ((spec_plGood.f a0_8 a0_9 a0_10).bind fun t140 => (if t140 = true then ((spec_mvGood.f k a0_11 a0_12).bind fun t141 => (some t141)) else (some false))) else (some false))) else (some false))

theorem spec_siHand.mono : ∀ a0 a1 a2 a3 a4 a5 a6 a7 a8 a9 a10 a11 a12 k, LeO (spec_siHand.f k a0 a1 a2 a3 a4 a5 a6 a7 a8 a9 a10 a11 a12) (spec_siHand.f (k + 1) a0 a1 a2 a3 a4 a5 a6 a7 a8 a9 a10 a11 a12) := by
  intro a0 a1 a2 a3 a4 a5 a6 a7 a8 a9 a10 a11 a12 k
  unfold spec_siHand.f
  repeat' first
      | (with_reducible exact spec_mvGood.mono _ _ _)
      | (with_reducible exact spec_shGood.mono _ _ _ _ _ _ _)
      | (with_reducible exact LeO.refl _)
      | (with_reducible exact LeO.none _)
      | (with_reducible refine LeO.ite ?_ ?_)
      | (with_reducible refine LeO.bind ?_ (fun _ => ?_))
      | exact spec_mvGood.mono _ _ _
      | exact spec_shGood.mono _ _ _ _ _ _ _
      | exact LeO.none _
      | refine LeO.ite ?_ ?_
      | refine LeO.bind ?_ (fun _ => ?_)

def spec_siHand.e (k : Nat) : Refl.Ent G := ⟨9, [(.agg gL0)], .one (.c .bool), fun x => spec_siHand.f k x.1 x.2.1 x.2.2.1 x.2.2.2.1 x.2.2.2.2.1 x.2.2.2.2.2.1 x.2.2.2.2.2.2.1 x.2.2.2.2.2.2.2.1 x.2.2.2.2.2.2.2.2.1 x.2.2.2.2.2.2.2.2.2.1 x.2.2.2.2.2.2.2.2.2.2.1 x.2.2.2.2.2.2.2.2.2.2.2.1 x.2.2.2.2.2.2.2.2.2.2.2.2⟩
theorem spec_siHand.ok (k : Nat) : Refl.EntOK Tryd.prog (spec_siHand.e k) := Refl.ent_ok 1000000 k GC (fun k => [spec_shGood.e k, spec_orGood.e k, spec_plGood.e k, spec_mvGood.e k]) (fun k => ⟨spec_shGood.ok k, spec_orGood.ok k, spec_plGood.ok k, spec_mvGood.ok k, trivial⟩) Tryd.func9 (by kernel_rfl) [] (ps := []) (by kernel_rfl) trivial (fun x => by kernel_rfl)

/-! ### spec_l1Num: function 40 -/

def spec_l1Num.f : Nat → Int → Option (ByteArray)
  | 0, _ => none
  | k + 1, a0 => if a0 < 10 then (some (strOfNums (([(wrap64 (48 + a0)) % 256] : List Int)))) else ((spec_l1Num.f k (wrap64 (Int.tdiv a0 10))).bind fun t145 => ((some (([(wrap64 (48 + (Int.tmod a0 10))) % 256] : List Int) : List Int)).bind fun y146 => (if t145.size + (strOfNums y146).size ≤ 9223372036854775807 then (some (t145 ++ (strOfNums y146))) else (none))))

theorem spec_l1Num.mono_l : ∀ k, (∀ y0, LeO (spec_l1Num.f k y0) (spec_l1Num.f (k + 1) y0))
  | 0 => fun _ r h => by simp [spec_l1Num.f] at h
  | k + 1 => by
    have ih0 := spec_l1Num.mono_l k
    · intro y0
      unfold spec_l1Num.f
      repeat' first
      | (with_reducible exact ih0 _)
      | (with_reducible exact LeO.refl _)
      | (with_reducible exact LeO.none _)
      | (with_reducible refine LeO.ite ?_ ?_)
      | (with_reducible refine LeO.bind ?_ (fun _ => ?_))
      | exact ih0 _
      | exact LeO.none _
      | refine LeO.ite ?_ ?_
      | refine LeO.bind ?_ (fun _ => ?_)

theorem spec_l1Num.mono : ∀ a0 k, LeO (spec_l1Num.f k a0) (spec_l1Num.f (k + 1) a0) := by
  intro a0 k
  have ih0 := spec_l1Num.mono_l k
  exact ih0 a0

def spec_l1Num.e (k : Nat) : Refl.Ent G := ⟨40, [(.c li)], .one (.c .str), fun x => spec_l1Num.f k x⟩
theorem spec_l1Num.ok : ∀ k : Nat, Refl.EntOK Tryd.prog (spec_l1Num.e k)
 | 0 => Refl.entOK_none Tryd.func40 (by kernel_rfl) (fun x => by kernel_rfl)
 | k + 1 => Refl.ent_ok 1000000 0 GC (fun _ => [spec_l1Num.e k]) (fun _ => ⟨spec_l1Num.ok k, trivial⟩) Tryd.func40 (by kernel_rfl) [] (ps := []) (by kernel_rfl) trivial (fun x => by kernel_rfl)

/-! ### spec_shText: function 21 -/

def spec_shText.l0 : Nat → ByteArray → List Int → Int → Int → Int → Int → Int → Int → Int → Bool → Option (ByteArray)
  | 0, _, _, _, _, _, _, _, _, _, _ => none
  | k + 1, x3, x10, x11, x12, x150000, x150001, x150002, x150003, x150004, x150005 => if x12 < x11 then (if 0 ≤ x12 then (if x12 < (x10.length : Int) then ((spec_l1Num.f k (rd x10 x12)).bind fun t155 => (if x3.size + t155.size ≤ 9223372036854775807 then (spec_shText.l0 k (x3 ++ t155) x10 x11 (wrap64 (x12 + 1)) x150000 x150001 x150002 x150003 x150004 x150005) else (none))) else (none)) else (none)) else (if x150005 = true then (if x3.size + 1 ≤ 9223372036854775807 then (some (x3 ++ (⟨#[115]⟩ : ByteArray))) else (none)) else (some x3))

def spec_shText.f (k : Nat) (a0_0 : Int) (a0_1 : Int) (a0_2 : Int) (a0_3 : Int) (a0_4 : Int) (a0_5 : Bool) : Option (ByteArray) := (spec_l1Num.f k a0_0).bind fun t150 => ((spec_shFingers.f a0_0 a0_1 a0_2 a0_3 a0_4 a0_5).bind fun t151 => (spec_shText.l0 k t150 t151 (t151.length : Int) 0 a0_0 a0_1 a0_2 a0_3 a0_4 a0_5))

theorem spec_shText.mono_l : ∀ k, (∀ y0 y1 y2 y3 y4 y5 y6 y7 y8 y9, LeO (spec_shText.l0 k y0 y1 y2 y3 y4 y5 y6 y7 y8 y9) (spec_shText.l0 (k + 1) y0 y1 y2 y3 y4 y5 y6 y7 y8 y9))
  | 0 => fun _ _ _ _ _ _ _ _ _ _ r h => by simp [spec_shText.l0] at h
  | k + 1 => by
    have ih0 := spec_shText.mono_l k
    · intro y0 y1 y2 y3 y4 y5 y6 y7 y8 y9
      unfold spec_shText.l0
      repeat' first
      | (with_reducible exact ih0 _ _ _ _ _ _ _ _ _ _)
      | (with_reducible exact spec_l1Num.mono _ _)
      | (with_reducible exact LeO.refl _)
      | (with_reducible exact LeO.none _)
      | (with_reducible refine LeO.ite ?_ ?_)
      | (with_reducible refine LeO.bind ?_ (fun _ => ?_))
      | exact ih0 _ _ _ _ _ _ _ _ _ _
      | exact spec_l1Num.mono _ _
      | exact LeO.none _
      | refine LeO.ite ?_ ?_
      | refine LeO.bind ?_ (fun _ => ?_)

theorem spec_shText.mono : ∀ a0 a1 a2 a3 a4 a5 k, LeO (spec_shText.f k a0 a1 a2 a3 a4 a5) (spec_shText.f (k + 1) a0 a1 a2 a3 a4 a5) := by
  intro a0 a1 a2 a3 a4 a5 k
  have ih0 := spec_shText.mono_l k
  unfold spec_shText.f
  repeat' first
      | (with_reducible exact ih0 _ _ _ _ _ _ _ _ _ _)
      | (with_reducible exact spec_l1Num.mono _ _)
      | (with_reducible exact LeO.refl _)
      | (with_reducible exact LeO.none _)
      | (with_reducible refine LeO.ite ?_ ?_)
      | (with_reducible refine LeO.bind ?_ (fun _ => ?_))
      | exact ih0 _ _ _ _ _ _ _ _ _ _
      | exact spec_l1Num.mono _ _
      | exact LeO.none _
      | refine LeO.ite ?_ ?_
      | refine LeO.bind ?_ (fun _ => ?_)

def spec_shText.e (k : Nat) : Refl.Ent G := ⟨21, [(.agg [li, li, li, li, li, .bool])], .one (.c .str), fun x => spec_shText.f k x.1 x.2.1 x.2.2.1 x.2.2.2.1 x.2.2.2.2.1 x.2.2.2.2.2⟩
def spec_shText.pl0 : Refl.Pn G (Refl.PT G (spec_shText.e 0).ol) := ⟨true, 0, ⟨[(3, .v (.c .str)), (10, .v (.c (.row 3 false))), (11, .v (.c li)), (12, .v (.c li)), (1, .box 1 0)], [(1, 35, gL1)]⟩, fun k x => spec_shText.l0 k x.1 x.2.1 x.2.2.1 x.2.2.2.1 x.2.2.2.2.1 x.2.2.2.2.2.1 x.2.2.2.2.2.2.1 x.2.2.2.2.2.2.2.1 x.2.2.2.2.2.2.2.2.1 x.2.2.2.2.2.2.2.2.2⟩
theorem spec_shText.ok (k : Nat) : Refl.EntOK Tryd.prog (spec_shText.e k) := Refl.ent_ok 1000000 k GC (fun k => [spec_l1Num.e k, spec_shFingers.e k]) (fun k => ⟨spec_l1Num.ok k, spec_shFingers.ok k, trivial⟩) Tryd.func21 (by kernel_rfl) [spec_shText.pl0] (ps := [spec_shText.pl0]) (by kernel_rfl) ⟨⟨fun x => by kernel_rfl, fun k x => by kernel_rfl⟩, trivial⟩ (fun x => by kernel_rfl)

/-! ### spec_orText: function 22 -/

def spec_orText.f (a0_0 : Int) (a0_1 : Int) : Option (ByteArray) := if 0 ≤ a0_0 then (if a0_0 ≤ (wrap64 (a0_0 + 1)) then (if (wrap64 (a0_0 + 1)) ≤ 6 then (if 0 ≤ a0_1 then (if a0_1 ≤ (wrap64 (a0_1 + 1)) then (if (wrap64 (a0_1 + 1)) ≤ 6 then (if ((⟨#[117, 100, 108, 114, 102, 98]⟩ : ByteArray).extract (a0_0 : Int).toNat ((wrap64 (a0_0 + 1)) : Int).toNat).size + ((⟨#[117, 100, 108, 114, 102, 98]⟩ : ByteArray).extract (a0_1 : Int).toNat ((wrap64 (a0_1 + 1)) : Int).toNat).size ≤ 9223372036854775807 then (some (((⟨#[117, 100, 108, 114, 102, 98]⟩ : ByteArray).extract (a0_0 : Int).toNat ((wrap64 (a0_0 + 1)) : Int).toNat) ++ ((⟨#[117, 100, 108, 114, 102, 98]⟩ : ByteArray).extract (a0_1 : Int).toNat ((wrap64 (a0_1 + 1)) : Int).toNat))) else (none)) else (none)) else (none)) else (none)) else (none)) else (none)) else (none)

def spec_orText.e (k : Nat) : Refl.Ent G := ⟨22, [(.agg [li, li])], .one (.c .str), fun x => spec_orText.f x.1 x.2⟩
theorem spec_orText.ok (k : Nat) : Refl.EntOK Tryd.prog (spec_orText.e k) := Refl.ent_ok 1000000 k GC (fun k => []) (fun k => trivial) Tryd.func22 (by kernel_rfl) [] (ps := []) (by kernel_rfl) trivial (fun x => by kernel_rfl)

/-! ### spec_plNames: function 41 -/

def spec_plNames.f  : Option (List ByteArray) := some (([(⟨#[115, 112, 97, 99, 101]⟩ : ByteArray), (⟨#[104, 101, 97, 100]⟩ : ByteArray), (⟨#[101, 121, 101]⟩ : ByteArray), (⟨#[99, 104, 101, 101, 107]⟩ : ByteArray), (⟨#[109, 111, 117, 116, 104]⟩ : ByteArray), (⟨#[99, 104, 105, 110]⟩ : ByteArray), (⟨#[110, 101, 99, 107]⟩ : ByteArray), (⟨#[99, 104, 101, 115, 116]⟩ : ByteArray), (⟨#[119, 97, 105, 115, 116]⟩ : ByteArray), (⟨#[104, 105, 112]⟩ : ByteArray)] : List ByteArray))

def spec_plNames.e (k : Nat) : Refl.Ent G := ⟨41, [], .one (.c (.row 9 true)), fun _ => spec_plNames.f ⟩
theorem spec_plNames.ok (k : Nat) : Refl.EntOK Tryd.prog (spec_plNames.e k) := Refl.ent_ok 1000000 k GC (fun k => []) (fun k => trivial) Tryd.func41 (by kernel_rfl) [] (ps := []) (by kernel_rfl) trivial (fun x => by kernel_rfl)

/-! ### spec_plText: function 23 -/

def spec_plText.f (a0_0 : Int) (a0_1 : Int) (a0_2 : Bool) : Option (ByteArray) := (spec_plNames.f).bind fun t161 => (if 0 ≤ a0_0 then (if a0_0 < (t161.length : Int) then (if a0_1 = (-1) then (if (rdOf ByteArray.empty t161 a0_0).size + 1 ≤ 9223372036854775807 then (if a0_2 = true then (if ((rdOf ByteArray.empty t161 a0_0) ++ (⟨#[60]⟩ : ByteArray)).size + 1 ≤ 9223372036854775807 then (some (((rdOf ByteArray.empty t161 a0_0) ++ (⟨#[60]⟩ : ByteArray)) ++ (⟨#[42]⟩ : ByteArray))) else (none)) else (some ((rdOf ByteArray.empty t161 a0_0) ++ (⟨#[60]⟩ : ByteArray)))) else (none)) else (if a0_1 = 1 then (if (rdOf ByteArray.empty t161 a0_0).size + 1 ≤ 9223372036854775807 then (if a0_2 = true then (if ((rdOf ByteArray.empty t161 a0_0) ++ (⟨#[62]⟩ : ByteArray)).size + 1 ≤ 9223372036854775807 then (some (((rdOf ByteArray.empty t161 a0_0) ++ (⟨#[62]⟩ : ByteArray)) ++ (⟨#[42]⟩ : ByteArray))) else (none)) else (some ((rdOf ByteArray.empty t161 a0_0) ++ (⟨#[62]⟩ : ByteArray)))) else (none)) else (if a0_2 = true then (if (rdOf ByteArray.empty t161 a0_0).size + 1 ≤ 9223372036854775807 then (some ((rdOf ByteArray.empty t161 a0_0) ++ (⟨#[42]⟩ : ByteArray))) else (none)) else (some (rdOf ByteArray.empty t161 a0_0))))) else (none)) else (none))

def spec_plText.e (k : Nat) : Refl.Ent G := ⟨23, [(.agg [li, li, .bool])], .one (.c .str), fun x => spec_plText.f x.1 x.2.1 x.2.2⟩
theorem spec_plText.ok (k : Nat) : Refl.EntOK Tryd.prog (spec_plText.e k) := Refl.ent_ok 1000000 k GC (fun k => [spec_plNames.e k]) (fun k => ⟨spec_plNames.ok k, trivial⟩) Tryd.func23 (by kernel_rfl) [] (ps := []) (by kernel_rfl) trivial (fun x => by kernel_rfl)

/-! ### spec_mvText: function 24 -/

def spec_mvText.f (k : Nat) (a0_0 : ByteArray) (a0_1 : Int) : Option (ByteArray) := if a0_0.toList = ([] : List UInt8) then (some (⟨#[45]⟩ : ByteArray)) else (if a0_1 > 1 then (if a0_0.size + 1 ≤ 9223372036854775807 then ((spec_l1Num.f k a0_1).bind fun t166 => (if (a0_0 ++ (⟨#[42]⟩ : ByteArray)).size + t166.size ≤ 9223372036854775807 then (some ((a0_0 ++ (⟨#[42]⟩ : ByteArray)) ++ t166)) else (none))) else (none)) else (some a0_0))

theorem spec_mvText.mono : ∀ a0 a1 k, LeO (spec_mvText.f k a0 a1) (spec_mvText.f (k + 1) a0 a1) := by
  intro a0 a1 k
  unfold spec_mvText.f
  repeat' first
      | (with_reducible exact spec_l1Num.mono _ _)
      | (with_reducible exact LeO.refl _)
      | (with_reducible exact LeO.none _)
      | (with_reducible refine LeO.ite ?_ ?_)
      | (with_reducible refine LeO.bind ?_ (fun _ => ?_))
      | exact spec_l1Num.mono _ _
      | exact LeO.none _
      | refine LeO.ite ?_ ?_
      | refine LeO.bind ?_ (fun _ => ?_)

def spec_mvText.e (k : Nat) : Refl.Ent G := ⟨24, [(.agg [.str, li])], .one (.c .str), fun x => spec_mvText.f k x.1 x.2⟩
theorem spec_mvText.ok (k : Nat) : Refl.EntOK Tryd.prog (spec_mvText.e k) := Refl.ent_ok 1000000 k GC (fun k => [spec_l1Num.e k]) (fun k => ⟨spec_l1Num.ok k, trivial⟩) Tryd.func24 (by kernel_rfl) [] (ps := []) (by kernel_rfl) trivial (fun x => by kernel_rfl)

/-! ### spec_imText: function 10 -/

def spec_imText.f (k : Nat) (a0_0 : Int) (a0_1 : Int) (a0_2 : Int) (a0_3 : Int) (a0_4 : Int) (a0_5 : Bool) (a0_6 : Int) (a0_7 : Int) (a0_8 : Int) (a0_9 : Int) (a0_10 : Bool) (a0_11 : ByteArray) (a0_12 : Int) : Option (ByteArray) := (spec_shText.f k a0_0 a0_1 a0_2 a0_3 a0_4 a0_5).bind fun t168 => (if 2 + t168.size ≤ 9223372036854775807 then (if ((⟨#[83, 61]⟩ : ByteArray) ++ t168).size + 3 ≤ 9223372036854775807 then ((spec_orText.f a0_6 a0_7).bind fun t169 => (if (((⟨#[83, 61]⟩ : ByteArray) ++ t168) ++ (⟨#[59, 79, 61]⟩ : ByteArray)).size + t169.size ≤ 9223372036854775807 then (if ((((⟨#[83, 61]⟩ : ByteArray) ++ t168) ++ (⟨#[59, 79, 61]⟩ : ByteArray)) ++ t169).size + 3 ≤ 9223372036854775807 then ((spec_plText.f a0_8 a0_9 a0_10).bind fun t170 => (if (((((⟨#[83, 61]⟩ : ByteArray) ++ t168) ++ (⟨#[59, 79, 61]⟩ : ByteArray)) ++ t169) ++ (⟨#[59, 80, 61]⟩ : ByteArray)).size + t170.size ≤ 9223372036854775807 then (if ((((((⟨#[83, 61]⟩ : ByteArray) ++ t168) ++ (⟨#[59, 79, 61]⟩ : ByteArray)) ++ t169) ++ (⟨#[59, 80, 61]⟩ : ByteArray)) ++ t170).size + 3 ≤ 9223372036854775807 then ((spec_mvText.f k a0_11 a0_12).bind fun t171 => (if (((((((⟨#[83, 61]⟩ : ByteArray) ++ t168) ++ (⟨#[59, 79, 61]⟩ : ByteArray)) ++ t169) ++ (⟨#[59, 80, 61]⟩ : ByteArray)) ++ t170) ++ (⟨#[59, 77, 61]⟩ : ByteArray)).size + t171.size ≤ 9223372036854775807 then (some ((((((((⟨#[83, 61]⟩ : ByteArray) ++ t168) ++ (⟨#[59, 79, 61]⟩ : ByteArray)) ++ t169) ++ (⟨#[59, 80, 61]⟩ : ByteArray)) ++ t170) ++ (⟨#[59, 77, 61]⟩ : ByteArray)) ++ t171)) else (none))) else (none)) else (none))) else (none)) else (none))) else (none)) else (none))

theorem spec_imText.mono : ∀ a0 a1 a2 a3 a4 a5 a6 a7 a8 a9 a10 a11 a12 k, LeO (spec_imText.f k a0 a1 a2 a3 a4 a5 a6 a7 a8 a9 a10 a11 a12) (spec_imText.f (k + 1) a0 a1 a2 a3 a4 a5 a6 a7 a8 a9 a10 a11 a12) := by
  intro a0 a1 a2 a3 a4 a5 a6 a7 a8 a9 a10 a11 a12 k
  unfold spec_imText.f
  repeat' first
      | (with_reducible exact spec_mvText.mono _ _ _)
      | (with_reducible exact spec_shText.mono _ _ _ _ _ _ _)
      | (with_reducible exact LeO.refl _)
      | (with_reducible exact LeO.none _)
      | (with_reducible refine LeO.ite ?_ ?_)
      | (with_reducible refine LeO.bind ?_ (fun _ => ?_))
      | exact spec_mvText.mono _ _ _
      | exact spec_shText.mono _ _ _ _ _ _ _
      | exact LeO.none _
      | refine LeO.ite ?_ ?_
      | refine LeO.bind ?_ (fun _ => ?_)

def spec_imText.e (k : Nat) : Refl.Ent G := ⟨10, [(.agg gL0)], .one (.c .str), fun x => spec_imText.f k x.1 x.2.1 x.2.2.1 x.2.2.2.1 x.2.2.2.2.1 x.2.2.2.2.2.1 x.2.2.2.2.2.2.1 x.2.2.2.2.2.2.2.1 x.2.2.2.2.2.2.2.2.1 x.2.2.2.2.2.2.2.2.2.1 x.2.2.2.2.2.2.2.2.2.2.1 x.2.2.2.2.2.2.2.2.2.2.2.1 x.2.2.2.2.2.2.2.2.2.2.2.2⟩
theorem spec_imText.ok (k : Nat) : Refl.EntOK Tryd.prog (spec_imText.e k) := Refl.ent_ok 1000000 k GC (fun k => [spec_shText.e k, spec_orText.e k, spec_plText.e k, spec_mvText.e k]) (fun k => ⟨spec_shText.ok k, spec_orText.ok k, spec_plText.ok k, spec_mvText.ok k, trivial⟩) Tryd.func10 (by kernel_rfl) [] (ps := []) (by kernel_rfl) trivial (fun x => by kernel_rfl)

/-! ### spec_ExportHand: function 5 -/

def spec_ExportHand.f (k : Nat) (a0_0 : Int) (a0_1 : Int) (a0_2 : Int) (a0_3 : Int) (a0_4 : Int) (a0_5 : Bool) (a0_6 : Int) (a0_7 : Int) (a0_8 : Int) (a0_9 : Int) (a0_10 : Bool) (a0_11 : ByteArray) (a0_12 : Int) : Option (ByteArray × Bool) := (spec_siHand.f k a0_0 a0_1 a0_2 a0_3 a0_4 a0_5 a0_6 a0_7 a0_8 a0_9 a0_10 a0_11 a0_12).bind fun t173 => (if t173 = true then ((spec_imText.f k a0_0 a0_1 a0_2 a0_3 a0_4 a0_5 a0_6 a0_7 a0_8 a0_9 a0_10 a0_11 a0_12).bind fun t174 => (some (t174, true))) else (some ((⟨#[]⟩ : ByteArray), false)))

theorem spec_ExportHand.mono : ∀ a0 a1 a2 a3 a4 a5 a6 a7 a8 a9 a10 a11 a12 k, LeO (spec_ExportHand.f k a0 a1 a2 a3 a4 a5 a6 a7 a8 a9 a10 a11 a12) (spec_ExportHand.f (k + 1) a0 a1 a2 a3 a4 a5 a6 a7 a8 a9 a10 a11 a12) := by
  intro a0 a1 a2 a3 a4 a5 a6 a7 a8 a9 a10 a11 a12 k
  unfold spec_ExportHand.f
  repeat' first
      | (with_reducible exact spec_imText.mono _ _ _ _ _ _ _ _ _ _ _ _ _ _)
      | (with_reducible exact spec_siHand.mono _ _ _ _ _ _ _ _ _ _ _ _ _ _)
      | (with_reducible exact LeO.refl _)
      | (with_reducible exact LeO.none _)
      | (with_reducible refine LeO.ite ?_ ?_)
      | (with_reducible refine LeO.bind ?_ (fun _ => ?_))
      | exact spec_imText.mono _ _ _ _ _ _ _ _ _ _ _ _ _ _
      | exact spec_siHand.mono _ _ _ _ _ _ _ _ _ _ _ _ _ _
      | exact LeO.none _
      | refine LeO.ite ?_ ?_
      | refine LeO.bind ?_ (fun _ => ?_)

def spec_ExportHand.e (k : Nat) : Refl.Ent G := ⟨5, [(.agg gL0)], .tup [(.c .str), (.c .bool)], fun x => spec_ExportHand.f k x.1 x.2.1 x.2.2.1 x.2.2.2.1 x.2.2.2.2.1 x.2.2.2.2.2.1 x.2.2.2.2.2.2.1 x.2.2.2.2.2.2.2.1 x.2.2.2.2.2.2.2.2.1 x.2.2.2.2.2.2.2.2.2.1 x.2.2.2.2.2.2.2.2.2.2.1 x.2.2.2.2.2.2.2.2.2.2.2.1 x.2.2.2.2.2.2.2.2.2.2.2.2⟩
theorem spec_ExportHand.ok (k : Nat) : Refl.EntOK Tryd.prog (spec_ExportHand.e k) := Refl.ent_ok 1000000 k GC (fun k => [spec_siHand.e k, spec_imText.e k]) (fun k => ⟨spec_siHand.ok k, spec_imText.ok k, trivial⟩) Tryd.func5 (by kernel_rfl) [] (ps := []) (by kernel_rfl) trivial (fun x => by kernel_rfl)

/-! ### laws_toShape: function 11 -/

def laws_toShape.f (a0_0 : Int) (a0_1 : Int) (a0_2 : Int) (a0_3 : Int) (a0_4 : Int) (a0_5 : Bool) : Option (Int × Int × Int × Int × Int × Bool) := some (a0_0, a0_1, a0_2, a0_3, a0_4, a0_5)

def laws_toShape.e (k : Nat) : Refl.Ent G := ⟨11, [(.agg [li, li, li, li, li, .bool])], .one (.agg [li, li, li, li, li, .bool]), fun x => laws_toShape.f x.1 x.2.1 x.2.2.1 x.2.2.2.1 x.2.2.2.2.1 x.2.2.2.2.2⟩
theorem laws_toShape.ok (k : Nat) : Refl.EntOK Tryd.prog (laws_toShape.e k) := Refl.ent_ok 1000000 k GC (fun k => []) (fun k => trivial) Tryd.func11 (by kernel_rfl) [] (ps := []) (by kernel_rfl) trivial (fun x => by kernel_rfl)

/-! ### laws_toOrient: function 12 -/

def laws_toOrient.f (a0_0 : Int) (a0_1 : Int) : Option (Int × Int) := some (a0_0, a0_1)

def laws_toOrient.e (k : Nat) : Refl.Ent G := ⟨12, [(.agg [li, li])], .one (.agg [li, li]), fun x => laws_toOrient.f x.1 x.2⟩
theorem laws_toOrient.ok (k : Nat) : Refl.EntOK Tryd.prog (laws_toOrient.e k) := Refl.ent_ok 1000000 k GC (fun k => []) (fun k => trivial) Tryd.func12 (by kernel_rfl) [] (ps := []) (by kernel_rfl) trivial (fun x => by kernel_rfl)

/-! ### laws_toPlace: function 13 -/

def laws_toPlace.f (a0_0 : Int) (a0_1 : Int) (a0_2 : Bool) : Option (Int × Int × Bool) := some (a0_0, a0_1, a0_2)

def laws_toPlace.e (k : Nat) : Refl.Ent G := ⟨13, [(.agg [li, li, .bool])], .one (.agg [li, li, .bool]), fun x => laws_toPlace.f x.1 x.2.1 x.2.2⟩
theorem laws_toPlace.ok (k : Nat) : Refl.EntOK Tryd.prog (laws_toPlace.e k) := Refl.ent_ok 1000000 k GC (fun k => []) (fun k => trivial) Tryd.func13 (by kernel_rfl) [] (ps := []) (by kernel_rfl) trivial (fun x => by kernel_rfl)

/-! ### laws_toMove: function 14 -/

def laws_toMove.f (a0_0 : ByteArray) (a0_1 : Int) : Option (ByteArray × Int) := some (a0_0, a0_1)

def laws_toMove.e (k : Nat) : Refl.Ent G := ⟨14, [(.agg [.str, li])], .one (.agg [.str, li]), fun x => laws_toMove.f x.1 x.2⟩
theorem laws_toMove.ok (k : Nat) : Refl.EntOK Tryd.prog (laws_toMove.e k) := Refl.ent_ok 1000000 k GC (fun k => []) (fun k => trivial) Tryd.func14 (by kernel_rfl) [] (ps := []) (by kernel_rfl) trivial (fun x => by kernel_rfl)

/-! ### laws_toHand: function 6 -/

def laws_toHand.f (a0_0 : Int) (a0_1 : Int) (a0_2 : Int) (a0_3 : Int) (a0_4 : Int) (a0_5 : Bool) (a0_6 : Int) (a0_7 : Int) (a0_8 : Int) (a0_9 : Int) (a0_10 : Bool) (a0_11 : ByteArray) (a0_12 : Int) : Option (Int × Int × Int × Int × Int × Bool × Int × Int × Int × Int × Bool × ByteArray × Int) := (laws_toShape.f a0_0 a0_1 a0_2 a0_3 a0_4 a0_5).bind fun bt190 => ((laws_toOrient.f a0_6 a0_7).bind fun bt196 => ((laws_toPlace.f a0_8 a0_9 a0_10).bind fun bt198 => ((laws_toMove.f a0_11 a0_12).bind fun bt201 => (some (bt190.1, bt190.2.1, bt190.2.2.1, bt190.2.2.2.1, bt190.2.2.2.2.1, bt190.2.2.2.2.2, bt196.1, bt196.2, bt198.1, bt198.2.1, bt198.2.2, bt201.1, bt201.2)))))

def laws_toHand.e (k : Nat) : Refl.Ent G := ⟨6, [(.agg gL0)], .one (.agg gL0), fun x => laws_toHand.f x.1 x.2.1 x.2.2.1 x.2.2.2.1 x.2.2.2.2.1 x.2.2.2.2.2.1 x.2.2.2.2.2.2.1 x.2.2.2.2.2.2.2.1 x.2.2.2.2.2.2.2.2.1 x.2.2.2.2.2.2.2.2.2.1 x.2.2.2.2.2.2.2.2.2.2.1 x.2.2.2.2.2.2.2.2.2.2.2.1 x.2.2.2.2.2.2.2.2.2.2.2.2⟩
theorem laws_toHand.ok (k : Nat) : Refl.EntOK Tryd.prog (laws_toHand.e k) := Refl.ent_ok 1000000 k GC (fun k => [laws_toShape.e k, laws_toOrient.e k, laws_toPlace.e k, laws_toMove.e k]) (fun k => ⟨laws_toShape.ok k, laws_toOrient.ok k, laws_toPlace.ok k, laws_toMove.ok k, trivial⟩) Tryd.func6 (by kernel_rfl) [] (ps := []) (by kernel_rfl) trivial (fun x => by kernel_rfl)

/-! ### impl_within: function 45 -/

def impl_within.f (a0 : Int) (a1 : Int) (a2 : Int) : Option (Bool) := if a0 ≥ a1 then (some (decide (a0 ≤ a2))) else (some false)

def impl_within.e (k : Nat) : Refl.Ent G := ⟨45, [(.c li), (.c li), (.c li)], .one (.c .bool), fun x => impl_within.f x.1 x.2.1 x.2.2⟩
theorem impl_within.ok (k : Nat) : Refl.EntOK Tryd.prog (impl_within.e k) := Refl.ent_ok 1000000 k GC (fun k => []) (fun k => trivial) Tryd.func45 (by kernel_rfl) [] (ps := []) (by kernel_rfl) trivial (fun x => by kernel_rfl)

/-! ### impl_allWithin: function 42 -/

def awOut (a1 a2 x : Int) : Bool := !decide (a1 ≤ x ∧ x ≤ a2)
/-- The first place with such a number, or -1. -/

def awIdx (a1 a2 : Int) : Nat → List Int → Int
  | _, [] => -1
  | i, x :: xs => if awOut a1 a2 x = true then (i : Int) else awIdx a1 a2 (i + 1) xs

def awAll (a1 a2 : Int) (l : List Int) : Bool := l.all fun x => decide (a1 ≤ x ∧ x ≤ a2)

theorem awIdx_all (a1 a2 : Int) : ∀ (l : List Int) (i : Nat), (!decide (0 ≤ awIdx a1 a2 i l)) = awAll a1 a2 l
  | [], i => by simp [awIdx, awAll]
  | x :: xs, i => by
    unfold awIdx
    by_cases h : awOut a1 a2 x = true
    · rw [if_pos h]
      unfold awOut at h
      simp only [Bool.not_eq_true'] at h
      simp only [awAll, List.all_cons, h, Bool.false_and]
      simp
    · rw [if_neg h, awIdx_all a1 a2 xs (i + 1)]
      unfold awOut at h
      simp only [Bool.not_eq_true', Bool.not_eq_false] at h
      simp only [awAll, List.all_cons, h, Bool.true_and]

theorem aw_within (a b c : Int) : impl_within.f a b c = some (decide (b ≤ a ∧ a ≤ c)) := by
  unfold impl_within.f
  by_cases h : b ≤ a
  · rw [if_pos h]; simp [h]
  · rw [if_neg h]; simp [h]

def AWFrom (a1 a2 : Int) (l : List Int) (i : Nat) (r : Int) : Prop := i ≤ l.length ∧ awIdx a1 a2 i (l.drop i) = r

theorem aw_step {a1 a2 : Int} {l : List Int} {i : Nat} {r : Int} (h : AWFrom a1 a2 l i r) (hlt : i < l.length) : (awOut a1 a2 (rd l (i : Int)) = false → AWFrom a1 a2 l (i + 1) r) ∧ (awOut a1 a2 (rd l (i : Int)) = true → r = (i : Int)) := by
  obtain ⟨_, h⟩ := h
  rw [List.drop_eq_getElem_cons hlt] at h
  unfold awIdx at h
  have e : rd l (i : Int) = l[i] := by
    unfold rd
    rw [List.getD_eq_getElem?_getD]
    simp [hlt]
  rw [e]
  refine ⟨fun e => ?_, fun e => ?_⟩
  · rw [e, if_neg (by decide)] at h; exact ⟨by omega, h⟩
  · rw [if_pos e] at h; exact h.symm

theorem aw_end {a1 a2 : Int} {l : List Int} {i : Nat} {r : Int} (h : AWFrom a1 a2 l i r) (hge : ¬ i < l.length) : r = -1 := by
  obtain ⟨hi, h⟩ := h
  rw [List.drop_eq_nil_of_le (by omega)] at h
  exact h.symm

def impl_allWithin.f (l0 : List Int) (a1 a2 : Int) : Option Bool := if l0.length ≤ 1000 then some (awAll a1 a2 l0) else none

def impl_allWithin.e (k : Nat) : Refl.Ent G := ⟨42, [(.c (.row 3 false)), (.c li), (.c li)], .one (.c .bool), fun x => impl_allWithin.f x.1 x.2.1 x.2.2⟩
def aw1.f (x a b : Int) : Option Bool := (impl_within.f x a b).bind fun t => some (!t)
def aw1.e (k : Nat) : Refl.Ent G := ⟨50, [.c li, .ref [li], .ref [li]], .one (.c .bool), fun x => aw1.f x.1 x.2.1 x.2.2⟩
theorem aw1.ok (k : Nat) : Refl.EntOK Tryd.prog (aw1.e k) := Refl.ent_ok 1000000 k GC (fun k => [impl_within.e k]) (fun k => ⟨impl_within.ok k, trivial⟩) Tryd.func50 (by kernel_rfl) [] (ps := []) (by kernel_rfl) trivial (fun x => by kernel_rfl)
def aw2.l0 : Nat → List Int → Int → Int → Int → Int → Option Int
  | 0, _, _, _, _, _ => none
  | k + 1, l, a, b, n, i => if i < n then (if 0 ≤ i then (if i < (l.length : Int) then ((aw1.f (rd l i) a b).bind fun t => if t = true then (some i) else (aw2.l0 k l a b n (wrap64 (i + 1)))) else (none)) else (none)) else (some (-1))
def aw2.f (k : Nat) (l : List Int) (a b : Int) : Option Int := aw2.l0 k l a b (l.length : Int) 0
def aw2.e (k : Nat) : Refl.Ent G := ⟨54, [.c (.row 3 false), .clo 50 [[li], [li]]], .one (.c li), fun x => aw2.f k x.1 x.2.1 x.2.2⟩
def aw2.p : Refl.Pn G (Refl.PT G (aw2.e 0).ol) := ⟨true, 0, ⟨[(0, .v (.c (.row 3 false))), (1, .v (.clo 50 [[li], [li]])), (7, .v (.c li)), (8, .v (.c li)), (4, .k (.int .i64 0))], []⟩, fun k x => aw2.l0 k x.1 x.2.1 x.2.2.1 x.2.2.2.1 x.2.2.2.2⟩
theorem aw2.ok (k : Nat) : Refl.EntOK Tryd.prog (aw2.e k) := Refl.ent_ok 1000000 k GC (fun k => [aw1.e k]) (fun k => ⟨aw1.ok k, trivial⟩) Tryd.func54 (by kernel_rfl) [aw2.p] (ps := [aw2.p]) (by kernel_rfl) ⟨⟨fun x => by kernel_rfl, fun k x => by kernel_rfl⟩, trivial⟩ (fun x => by kernel_rfl)
def aw3.f (k : Nat) (l : List Int) (a b : Int) : Option Bool := (aw2.f k l a b).bind fun t => some (decide (t ≥ 0))
def aw3.e (k : Nat) : Refl.Ent G := ⟨49, [.c (.row 3 false), .clo 50 [[li], [li]]], .one (.c .bool), fun x => aw3.f k x.1 x.2.1 x.2.2⟩
theorem aw3.ok (k : Nat) : Refl.EntOK Tryd.prog (aw3.e k) := Refl.ent_ok 1000000 k GC (fun k => [aw2.e k]) (fun k => ⟨aw2.ok k, trivial⟩) Tryd.func49 (by kernel_rfl) [] (ps := []) (by kernel_rfl) trivial (fun x => by kernel_rfl)
def aw0.f (k : Nat) (l : List Int) (a b : Int) : Option Bool := (aw3.f k l a b).bind fun t => some (!t)
def aw0.e (k : Nat) : Refl.Ent G := ⟨42, [.c (.row 3 false), .c li, .c li], .one (.c .bool), fun x => aw0.f k x.1 x.2.1 x.2.2⟩
theorem aw0.ok (k : Nat) : Refl.EntOK Tryd.prog (aw0.e k) := Refl.ent_ok 1000000 k GC (fun k => [aw3.e k]) (fun k => ⟨aw3.ok k, trivial⟩) Tryd.func42 (by kernel_rfl) [] (ps := []) (by kernel_rfl) trivial (fun x => by kernel_rfl)
theorem aw1_eq (x a b : Int) : aw1.f x a b = some (awOut a b x) := by
  unfold aw1.f awOut
  rw [aw_within]
  rfl
theorem aw2_eq (l : List Int) (a b : Int) (hl : l.length ≤ 1000) : ∀ (k i : Nat), l.length - i < k → i ≤ l.length → aw2.l0 k l a b (l.length : Int) (i : Int) = some (awIdx a b i (l.drop i))
  | 0, i, h, _ => by omega
  | k + 1, i, h, hi => by
    unfold aw2.l0
    by_cases hlt : i < l.length
    · have hd := List.drop_eq_getElem_cons hlt
      rw [if_pos (by omega), if_pos (by omega), if_pos (by omega), aw1_eq]
      have e : rd l (i : Int) = l[i] := by
        unfold rd
        rw [List.getD_eq_getElem?_getD]
        simp [hlt]
      rw [e, hd]
      simp only [Option.bind_some, awIdx]
      by_cases ho : awOut a b l[i] = true
      · rw [if_pos ho, if_pos ho]
      · rw [if_neg ho, if_neg ho, show wrap64 ((i : Int) + 1) = ((i + 1 : Nat) : Int) from by unfold wrap64; omega]
        exact aw2_eq l a b hl k (i + 1) (by omega) (by omega)
    · rw [if_neg (by omega), List.drop_eq_nil_of_le (by omega)]
      rfl
theorem impl_allWithin.ok (k : Nat) : Refl.EntOK Tryd.prog (impl_allWithin.e k) := (aw0.ok 1002).weaken _ fun x y h => by
  obtain ⟨l, a, b⟩ := x
  have h : impl_allWithin.f l a b = some y := h
  show aw0.f 1002 l a b = some y
  unfold impl_allWithin.f at h
  split at h
  · rename_i hl
    have := aw2_eq l a b hl 1002 0 (by omega) (by omega)
    unfold aw0.f aw3.f aw2.f
    rw [show ((0 : Nat) : Int) = 0 from rfl] at this
    rw [this, ← h, ← awIdx_all a b l 0]
    rfl
  · cases h

/-! ### impl_Shape_bends: function 43 -/

def impl_Shape_bends.f (a0_0 : Int) (a0_1 : Int) (a0_2 : Int) (a0_3 : Int) (a0_4 : Int) (a0_5 : Bool) : Option (List Int) := some (([a0_1, a0_2, a0_3, a0_4] : List Int))

def impl_Shape_bends.e (k : Nat) : Refl.Ent G := ⟨43, [(.agg [li, li, li, li, li, .bool])], .one (.c (.row 3 true)), fun x => impl_Shape_bends.f x.1 x.2.1 x.2.2.1 x.2.2.2.1 x.2.2.2.2.1 x.2.2.2.2.2⟩
theorem impl_Shape_bends.ok (k : Nat) : Refl.EntOK Tryd.prog (impl_Shape_bends.e k) := Refl.ent_ok 1000000 k GC (fun k => []) (fun k => trivial) Tryd.func43 (by kernel_rfl) [] (ps := []) (by kernel_rfl) trivial (fun x => by kernel_rfl)

/-! ### impl_Shape_maySpread: function 44 -/

def impl_Shape_maySpread.f (a0_0 : Int) (a0_1 : Int) (a0_2 : Int) (a0_3 : Int) (a0_4 : Int) (a0_5 : Bool) : Option (Bool) := if a0_2 = 0 then (if a0_1 = 0 then (some true) else (if a0_3 = 0 then (some true) else (if a0_3 = 0 then (some (a0_4 == 0)) else (some false)))) else (if a0_3 = 0 then (some (a0_4 == 0)) else (some false))

def impl_Shape_maySpread.e (k : Nat) : Refl.Ent G := ⟨44, [(.agg [li, li, li, li, li, .bool])], .one (.c .bool), fun x => impl_Shape_maySpread.f x.1 x.2.1 x.2.2.1 x.2.2.2.1 x.2.2.2.2.1 x.2.2.2.2.2⟩
theorem impl_Shape_maySpread.ok (k : Nat) : Refl.EntOK Tryd.prog (impl_Shape_maySpread.e k) := Refl.ent_ok 1000000 k GC (fun k => []) (fun k => trivial) Tryd.func44 (by kernel_rfl) [] (ps := []) (by kernel_rfl) trivial (fun x => by kernel_rfl)

/-! ### impl_IsShape: function 25 -/

def impl_IsShape.f (a0_0 : Int) (a0_1 : Int) (a0_2 : Int) (a0_3 : Int) (a0_4 : Int) (a0_5 : Bool) : Option (Bool) := (some (([a0_0] : List Int) : List Int)).bind fun y209 => ((impl_Shape_bends.f a0_0 a0_1 a0_2 a0_3 a0_4 a0_5).bind fun t212 => (if y209.length + t212.length < 17592186044416 then ((impl_allWithin.f (y209 ++ t212) 0 2).bind fun t218 => (if t218 = true then (if a0_5 = true then ((impl_Shape_maySpread.f a0_0 a0_1 a0_2 a0_3 a0_4 a0_5).bind fun t219 => (some t219)) else (some true)) else (some false))) else (none)))

def impl_IsShape.e (k : Nat) : Refl.Ent G := ⟨25, [(.agg [li, li, li, li, li, .bool])], .one (.c .bool), fun x => impl_IsShape.f x.1 x.2.1 x.2.2.1 x.2.2.2.1 x.2.2.2.2.1 x.2.2.2.2.2⟩
theorem impl_IsShape.ok (k : Nat) : Refl.EntOK Tryd.prog (impl_IsShape.e k) := Refl.ent_ok 1000000 k GC (fun k => [impl_Shape_bends.e k, impl_allWithin.e k, impl_Shape_maySpread.e k]) (fun k => ⟨impl_Shape_bends.ok k, impl_allWithin.ok k, impl_Shape_maySpread.ok k, trivial⟩) Tryd.func25 (by kernel_rfl) [] (ps := []) (by kernel_rfl) trivial (fun x => by kernel_rfl)

/-! ### impl_IsOrient: function 26 -/

def impl_IsOrient.f (a0_0 : Int) (a0_1 : Int) : Option (Bool) := (impl_within.f a0_0 0 5).bind fun t221 => (if t221 = true then ((impl_within.f a0_1 0 5).bind fun t222 => (if t222 = true then (some ((wrap64 (Int.tdiv a0_0 2)) != (wrap64 (Int.tdiv a0_1 2)))) else (some false))) else (some false))

def impl_IsOrient.e (k : Nat) : Refl.Ent G := ⟨26, [(.agg [li, li])], .one (.c .bool), fun x => impl_IsOrient.f x.1 x.2⟩
theorem impl_IsOrient.ok (k : Nat) : Refl.EntOK Tryd.prog (impl_IsOrient.e k) := Refl.ent_ok 1000000 k GC (fun k => [impl_within.e k]) (fun k => ⟨impl_within.ok k, trivial⟩) Tryd.func26 (by kernel_rfl) [] (ps := []) (by kernel_rfl) trivial (fun x => by kernel_rfl)

/-! ### impl_IsPlace: function 27 -/

def impl_IsPlace.f (a0_0 : Int) (a0_1 : Int) (a0_2 : Bool) : Option (Bool) := (impl_within.f a0_0 0 9).bind fun t224 => (if t224 = true then ((impl_within.f a0_1 (-1) 1).bind fun t225 => (if t225 = true then (if a0_2 = true then (some (!(a0_0 == 0))) else (some (!false))) else (some false))) else (some false))

def impl_IsPlace.e (k : Nat) : Refl.Ent G := ⟨27, [(.agg [li, li, .bool])], .one (.c .bool), fun x => impl_IsPlace.f x.1 x.2.1 x.2.2⟩
theorem impl_IsPlace.ok (k : Nat) : Refl.EntOK Tryd.prog (impl_IsPlace.e k) := Refl.ent_ok 1000000 k GC (fun k => [impl_within.e k]) (fun k => ⟨impl_within.ok k, trivial⟩) Tryd.func27 (by kernel_rfl) [] (ps := []) (by kernel_rfl) trivial (fun x => by kernel_rfl)

/-! ### strings_IndexByte: function 51 -/

def strings_IndexByte.f (a0 : ByteArray) (a1 : Int) : Option Int := some (Lib.indexByte a0.data.toList a1.toNat.toUInt8)
theorem strings_IndexByte.calls (a0 : ByteArray) (a1 : Int) (r : Int) (w : World) (h : strings_IndexByte.f a0 a1 = some r) :
    Calls Tryd.prog 51 #[.string a0, .int .u8 a1] w fun e w' => e = .returned (.int .i64 r) ∧ Drawn0 w w' := by
  obtain rfl := Option.some.inj h
  exact (Tryd.strings_IndexByte a0 a1 w).mono fun e w' ⟨he, hw⟩ => ⟨he, hw ▸ Drawn0.refl _⟩

def strings_IndexByte.e (k : Nat) : Refl.Ent G := ⟨51, [(.c .str), (.c (.int .u8))], .one (.c li), fun x => strings_IndexByte.f x.1 x.2⟩
theorem strings_IndexByte.ok (k : Nat) : Refl.EntOK Tryd.prog (strings_IndexByte.e k) := Refl.entOK_hand Tryd.func51 (by kernel_rfl) (fun x => by kernel_rfl) (fun y => ⟨by kernel_rfl, by kernel_rfl, by kernel_rfl, by kernel_rfl⟩) (fun x y h w => (strings_IndexByte.calls x.1 x.2 y w h).mono fun e w' hh => ⟨hh.1, hh.2.below⟩)

/-! ### impl_hasOnly: function 46 -/

def impl_hasOnly.l0 : Nat → ByteArray → ByteArray → Int → Int → Option (Bool)
  | 0, _, _, _, _ => none
  | k + 1, x0, x1, x7, x8 => if x8 < x7 then (if 0 ≤ x8 then (if x8 < (x0.size : Int) then ((strings_IndexByte.f x1 (bt x0 x8)).bind fun t226 => (if t226 < 0 then (some false) else (impl_hasOnly.l0 k x0 x1 x7 (wrap64 (x8 + 1))))) else (none)) else (none)) else (some true)

def impl_hasOnly.f (k : Nat) (a0 : ByteArray) (a1 : ByteArray) : Option (Bool) := impl_hasOnly.l0 k a0 a1 (a0.size : Int) 0

theorem impl_hasOnly.mono_l : ∀ k, (∀ y0 y1 y2 y3, LeO (impl_hasOnly.l0 k y0 y1 y2 y3) (impl_hasOnly.l0 (k + 1) y0 y1 y2 y3))
  | 0 => fun _ _ _ _ r h => by simp [impl_hasOnly.l0] at h
  | k + 1 => by
    have ih0 := impl_hasOnly.mono_l k
    · intro y0 y1 y2 y3
      unfold impl_hasOnly.l0
      repeat' first
      | (with_reducible exact ih0 _ _ _ _)
      | (with_reducible exact LeO.refl _)
      | (with_reducible exact LeO.none _)
      | (with_reducible refine LeO.ite ?_ ?_)
      | (with_reducible refine LeO.bind ?_ (fun _ => ?_))
      | exact ih0 _ _ _ _
      | exact LeO.none _
      | refine LeO.ite ?_ ?_
      | refine LeO.bind ?_ (fun _ => ?_)

theorem impl_hasOnly.mono : ∀ a0 a1 k, LeO (impl_hasOnly.f k a0 a1) (impl_hasOnly.f (k + 1) a0 a1) := by
  intro a0 a1 k
  have ih0 := impl_hasOnly.mono_l k
  unfold impl_hasOnly.f
  repeat' first
      | (with_reducible exact ih0 _ _ _ _)
      | (with_reducible exact LeO.refl _)
      | (with_reducible exact LeO.none _)
      | (with_reducible refine LeO.ite ?_ ?_)
      | (with_reducible refine LeO.bind ?_ (fun _ => ?_))
      | exact ih0 _ _ _ _
      | exact LeO.none _
      | refine LeO.ite ?_ ?_
      | refine LeO.bind ?_ (fun _ => ?_)

def impl_hasOnly.e (k : Nat) : Refl.Ent G := ⟨46, [(.c .str), (.c .str)], .one (.c .bool), fun x => impl_hasOnly.f k x.1 x.2⟩
def impl_hasOnly.pl0 : Refl.Pn G (Refl.PT G (impl_hasOnly.e 0).ol) := ⟨true, 0, ⟨[(0, .v (.c .str)), (1, .v (.c .str)), (7, .v (.c li)), (8, .v (.c li)), (4, .k (Value.bool false))], []⟩, fun k x => impl_hasOnly.l0 k x.1 x.2.1 x.2.2.1 x.2.2.2⟩
theorem impl_hasOnly.ok (k : Nat) : Refl.EntOK Tryd.prog (impl_hasOnly.e k) := Refl.ent_ok 1000000 k GC (fun k => [strings_IndexByte.e k]) (fun k => ⟨strings_IndexByte.ok k, trivial⟩) Tryd.func46 (by kernel_rfl) [impl_hasOnly.pl0] (ps := [impl_hasOnly.pl0]) (by kernel_rfl) ⟨⟨fun x => by kernel_rfl, fun k x => by kernel_rfl⟩, trivial⟩ (fun x => by kernel_rfl)

/-! ### impl_IsMove: function 28 -/

def impl_IsMove.f (k : Nat) (a0_0 : ByteArray) (a0_1 : Int) : Option (Bool) := if (a0_0.size : Int) ≤ 6 then ((impl_hasOnly.f k a0_0 (⟨#[117, 100, 108, 114, 102, 98]⟩ : ByteArray)).bind fun t228 => (if t228 = true then ((impl_within.f a0_1 1 3).bind fun t229 => (if t229 = true then (if a0_0.toList = ([] : List UInt8) then (some (a0_1 == 1)) else (some true)) else (some false))) else (some false))) else (some false)

theorem impl_IsMove.mono : ∀ a0 a1 k, LeO (impl_IsMove.f k a0 a1) (impl_IsMove.f (k + 1) a0 a1) := by
  intro a0 a1 k
  unfold impl_IsMove.f
  repeat' first
      | (with_reducible exact impl_hasOnly.mono _ _ _)
      | (with_reducible exact LeO.refl _)
      | (with_reducible exact LeO.none _)
      | (with_reducible refine LeO.ite ?_ ?_)
      | (with_reducible refine LeO.bind ?_ (fun _ => ?_))
      | exact impl_hasOnly.mono _ _ _
      | exact LeO.none _
      | refine LeO.ite ?_ ?_
      | refine LeO.bind ?_ (fun _ => ?_)

def impl_IsMove.e (k : Nat) : Refl.Ent G := ⟨28, [(.agg [.str, li])], .one (.c .bool), fun x => impl_IsMove.f k x.1 x.2⟩
theorem impl_IsMove.ok (k : Nat) : Refl.EntOK Tryd.prog (impl_IsMove.e k) := Refl.ent_ok 1000000 k GC (fun k => [impl_hasOnly.e k, impl_within.e k]) (fun k => ⟨impl_hasOnly.ok k, impl_within.ok k, trivial⟩) Tryd.func28 (by kernel_rfl) [] (ps := []) (by kernel_rfl) trivial (fun x => by kernel_rfl)

/-! ### impl_IsHand: function 15 -/

def impl_IsHand.f (k : Nat) (a0_0 : Int) (a0_1 : Int) (a0_2 : Int) (a0_3 : Int) (a0_4 : Int) (a0_5 : Bool) (a0_6 : Int) (a0_7 : Int) (a0_8 : Int) (a0_9 : Int) (a0_10 : Bool) (a0_11 : ByteArray) (a0_12 : Int) : Option (Bool) := (impl_IsShape.f a0_0 a0_1 a0_2 a0_3 a0_4 a0_5).bind fun t231 => (if t231 = true then ((impl_IsOrient.f a0_6 a0_7).bind fun t232 => (if t232 = true then ((impl_IsPlace.f a0_8 a0_9 a0_10).bind fun t233 => (if t233 = true then ((impl_IsMove.f k a0_11 a0_12).bind fun t234 => (some t234)) else (some false))) else (some false))) else (some false))

theorem impl_IsHand.mono : ∀ a0 a1 a2 a3 a4 a5 a6 a7 a8 a9 a10 a11 a12 k, LeO (impl_IsHand.f k a0 a1 a2 a3 a4 a5 a6 a7 a8 a9 a10 a11 a12) (impl_IsHand.f (k + 1) a0 a1 a2 a3 a4 a5 a6 a7 a8 a9 a10 a11 a12) := by
  intro a0 a1 a2 a3 a4 a5 a6 a7 a8 a9 a10 a11 a12 k
  unfold impl_IsHand.f
  repeat' first
      | (with_reducible exact impl_IsMove.mono _ _ _)
      | (with_reducible exact LeO.refl _)
      | (with_reducible exact LeO.none _)
      | (with_reducible refine LeO.ite ?_ ?_)
      | (with_reducible refine LeO.bind ?_ (fun _ => ?_))
      | exact impl_IsMove.mono _ _ _
      | exact LeO.none _
      | refine LeO.ite ?_ ?_
      | refine LeO.bind ?_ (fun _ => ?_)

def impl_IsHand.e (k : Nat) : Refl.Ent G := ⟨15, [(.agg gL0)], .one (.c .bool), fun x => impl_IsHand.f k x.1 x.2.1 x.2.2.1 x.2.2.2.1 x.2.2.2.2.1 x.2.2.2.2.2.1 x.2.2.2.2.2.2.1 x.2.2.2.2.2.2.2.1 x.2.2.2.2.2.2.2.2.1 x.2.2.2.2.2.2.2.2.2.1 x.2.2.2.2.2.2.2.2.2.2.1 x.2.2.2.2.2.2.2.2.2.2.2.1 x.2.2.2.2.2.2.2.2.2.2.2.2⟩
theorem impl_IsHand.ok (k : Nat) : Refl.EntOK Tryd.prog (impl_IsHand.e k) := Refl.ent_ok 1000000 k GC (fun k => [impl_IsShape.e k, impl_IsOrient.e k, impl_IsPlace.e k, impl_IsMove.e k]) (fun k => ⟨impl_IsShape.ok k, impl_IsOrient.ok k, impl_IsPlace.ok k, impl_IsMove.ok k, trivial⟩) Tryd.func15 (by kernel_rfl) [] (ps := []) (by kernel_rfl) trivial (fun x => by kernel_rfl)

/-! ### strconv_Itoa: function 47 -/

/-- The digits, and the pairs of digits, as the library lays them. -/
def itA : ByteArray := ⟨#[48, 49, 50, 51, 52, 53, 54, 55, 56, 57, 97, 98, 99, 100, 101, 102, 103, 104, 105, 106, 107, 108, 109, 110, 111, 112, 113, 114, 115, 116, 117, 118, 119, 120, 121, 122]⟩
def itB : ByteArray := ⟨#[48, 48, 48, 49, 48, 50, 48, 51, 48, 52, 48, 53, 48, 54, 48, 55, 48, 56, 48, 57, 49, 48, 49, 49, 49, 50, 49, 51, 49, 52, 49, 53, 49, 54, 49, 55, 49, 56, 49, 57, 50, 48, 50, 49, 50, 50, 50, 51, 50, 52, 50, 53, 50, 54, 50, 55, 50, 56, 50, 57, 51, 48, 51, 49, 51, 50, 51, 51, 51, 52, 51, 53, 51, 54, 51, 55, 51, 56, 51, 57, 52, 48, 52, 49, 52, 50, 52, 51, 52, 52, 52, 53, 52, 54, 52, 55, 52, 56, 52, 57, 53, 48, 53, 49, 53, 50, 53, 51, 53, 52, 53, 53, 53, 54, 53, 55, 53, 56, 53, 57, 54, 48, 54, 49, 54, 50, 54, 51, 54, 52, 54, 53, 54, 54, 54, 55, 54, 56, 54, 57, 55, 48, 55, 49, 55, 50, 55, 51, 55, 52, 55, 53, 55, 54, 55, 55, 55, 56, 55, 57, 56, 48, 56, 49, 56, 50, 56, 51, 56, 52, 56, 53, 56, 54, 56, 55, 56, 56, 56, 57, 57, 48, 57, 49, 57, 50, 57, 51, 57, 52, 57, 53, 57, 54, 57, 55, 57, 56, 57, 57]⟩
/-- The text of a number below 100. -/
def itT (n : Int) : ByteArray := if n < 10 then itA.extract n.toNat (n + 1).toNat else itB.extract (n * 2).toNat (n * 2 + 2).toNat
set_option maxHeartbeats 4000000 in
set_option maxRecDepth 100000 in
theorem itSmall (n : Int) (w : World) (h0 : 0 ≤ n) (h1 : n < 100) : Calls Tryd.prog 58 #[.int .i64 n] w fun e w' => e = .returned (.string (itT n)) ∧ Drawn0 w w' := by
  have e1 : IntKind.i64.wrap (n + 1) = n + 1 := by simp [IntKind.wrap, IntKind.bits, IntKind.signed]; omega
  have e2 : IntKind.i64.wrap (n * 2) = n * 2 := by simp [IntKind.wrap, IntKind.bits, IntKind.signed]; omega
  have e3 : IntKind.i64.wrap (n * 2 + 2) = n * 2 + 2 := by simp [IntKind.wrap, IntKind.bits, IntKind.signed]; omega
  by_cases h : n < 10
  · have c0 : decide (n < 10) = true := decide_eq_true h
    have c1 : itT n = itA.extract n.toNat (n + 1).toNat := if_pos h
    have b0 : (0 ≤ n) = True := eq_true h0
    have b1 : (n ≤ n + 1) = True := eq_true (by omega)
    have b2 : (n + 1 ≤ 36) = True := eq_true (by omega)
    have b3 : decide (0 ≤ n) = true := decide_eq_true h0
    have b4 : decide (n ≤ n + 1) = true := decide_eq_true (by omega)
    have b5 : decide (n + 1 ≤ 36) = true := decide_eq_true (by omega)
    rw [c1]
    clear h c1 h0 h1
    go_enter Tryd.func58, Tryd.ntmps58
    go_wp2
    go_ret
    exact ⟨by first | rfl | (simp [itA]; done), by repeat (first | exact Drawn0.refl _ | apply Drawn0.step)⟩
  · have c0 : decide (n < 10) = false := decide_eq_false h
    have c1 : itT n = itB.extract (n * 2).toNat (n * 2 + 2).toNat := if_neg h
    have b0 : (0 ≤ n * 2) = True := eq_true (by omega)
    have b1 : (n * 2 ≤ n * 2 + 2) = True := eq_true (by omega)
    have b2 : (n * 2 + 2 ≤ 200) = True := eq_true (by omega)
    have b3 : decide (0 ≤ n * 2) = true := decide_eq_true (by omega)
    have b4 : decide (n * 2 ≤ n * 2 + 2) = true := decide_eq_true (by omega)
    have b5 : decide (n * 2 + 2 ≤ 200) = true := decide_eq_true (by omega)
    rw [c1]
    clear h c1 h0 h1
    go_enter Tryd.func58, Tryd.ntmps58
    go_wp2
    go_ret
    exact ⟨by first | rfl | (simp [itB]; done), by repeat (first | exact Drawn0.refl _ | apply Drawn0.step)⟩
set_option maxHeartbeats 4000000 in
set_option maxRecDepth 100000 in
theorem itFormat (n : Int) (w : World) (h0 : 0 ≤ n) (h1 : n < 100) : Calls Tryd.prog 56 #[.int .i64 n, .int .i64 10] w fun e w' => e = .returned (.string (itT n)) ∧ Drawn0 w w' := by
  have HS := Aside0.mk (fun W => itSmall n W h0 h1)
  have e1 : IntKind.i64.wrap n = n := by simp [IntKind.wrap, IntKind.bits, IntKind.signed]; omega
  have c0 : decide (0 ≤ n) = true := decide_eq_true h0
  have c1 : decide (n < 100) = true := decide_eq_true h1
  clear h0 h1
  go_enter Tryd.func56, Tryd.ntmps56
  go_wp2_with (go_at_call 58; refine (HS.out _).mono ?_; rintro e wq ⟨rfl, ⟨nd, rfl⟩⟩)
  go_ret
  exact ⟨by first | rfl | (simp; done), by repeat (first | exact Drawn0.refl _ | apply Drawn0.step)⟩
set_option maxHeartbeats 4000000 in
set_option maxRecDepth 100000 in
theorem itIn (n : Int) (w : World) (h0 : 0 ≤ n) (h1 : n < 100) : Calls Tryd.prog 52 #[.int .i64 n] w fun e w' => e = .returned (.string (itT n)) ∧ Drawn0 w w' := by
  have HS := Aside0.mk (fun W => itFormat n W h0 h1)
  have e1 : IntKind.i64.wrap n = n := by simp [IntKind.wrap, IntKind.bits, IntKind.signed]; omega
  clear h0 h1
  go_enter Tryd.func52, Tryd.ntmps52
  go_wp2_with (go_at_call 56; refine (HS.out _).mono ?_; rintro e wq ⟨rfl, ⟨nd, rfl⟩⟩)
  go_ret
  exact ⟨by first | rfl | (simp; done), by repeat (first | exact Drawn0.refl _ | apply Drawn0.step)⟩
def strconv_Itoa.f (a0 : Int) : Option ByteArray := if 0 ≤ a0 ∧ a0 < 100 then some (itT a0) else none
set_option maxHeartbeats 4000000 in
set_option maxRecDepth 100000 in
theorem strconv_Itoa.calls (a0 : Int) (r : ByteArray) (w : World) (h : strconv_Itoa.f a0 = some r) : Calls Tryd.prog 47 #[.int .i64 a0] w fun e w' => e = .returned (.string r) ∧ Drawn0 w w' := by
  unfold strconv_Itoa.f at h
  by_cases hn : 0 ≤ a0 ∧ a0 < 100
  · rw [if_pos hn] at h
    obtain rfl := Option.some.inj h
    have HS := Aside0.mk (fun W => itIn a0 W hn.1 hn.2)
    clear h hn
    go_enter Tryd.func47, Tryd.ntmps47
    go_wp2_with (go_at_call 52; refine (HS.out _).mono ?_; rintro e wq ⟨rfl, ⟨nd, rfl⟩⟩)
    go_ret
    exact ⟨by first | rfl | (simp; done), by repeat (first | exact Drawn0.refl _ | apply Drawn0.step)⟩
  · rw [if_neg hn] at h; exact absurd h (by simp)

def strconv_Itoa.e (k : Nat) : Refl.Ent G := ⟨47, [(.c li)], .one (.c .str), fun x => strconv_Itoa.f x⟩
theorem strconv_Itoa.ok (k : Nat) : Refl.EntOK Tryd.prog (strconv_Itoa.e k) := Refl.entOK_hand Tryd.func47 (by kernel_rfl) (fun x => by kernel_rfl) (fun y => ⟨by kernel_rfl, by kernel_rfl, by kernel_rfl, by kernel_rfl⟩) (fun x y h w => (strconv_Itoa.calls x y w h).mono fun e w' hh => ⟨hh.1, hh.2.below⟩)

/-! ### impl_Shape_text: function 29 -/

def impl_Shape_text.l0 : Nat → ByteArray → List Int → Int → Int → Int → Int → Int → Int → Int → Bool → Option (ByteArray)
  | 0, _, _, _, _, _, _, _, _, _, _ => none
  | k + 1, x3, x10, x11, x12, x236000, x236001, x236002, x236003, x236004, x236005 => if x12 < x11 then (if 0 ≤ x12 then (if x12 < (x10.length : Int) then ((strconv_Itoa.f (rd x10 x12)).bind fun t241 => (if x3.size + t241.size ≤ 9223372036854775807 then (impl_Shape_text.l0 k (x3 ++ t241) x10 x11 (wrap64 (x12 + 1)) x236000 x236001 x236002 x236003 x236004 x236005) else (none))) else (none)) else (none)) else (if x236005 = true then (if x3.size + 1 ≤ 9223372036854775807 then (some (x3 ++ (⟨#[115]⟩ : ByteArray))) else (none)) else (some x3))

def impl_Shape_text.f (k : Nat) (a0_0 : Int) (a0_1 : Int) (a0_2 : Int) (a0_3 : Int) (a0_4 : Int) (a0_5 : Bool) : Option (ByteArray) := (strconv_Itoa.f a0_0).bind fun t236 => ((impl_Shape_bends.f a0_0 a0_1 a0_2 a0_3 a0_4 a0_5).bind fun t237 => (impl_Shape_text.l0 k t236 t237 (t237.length : Int) 0 a0_0 a0_1 a0_2 a0_3 a0_4 a0_5))

theorem impl_Shape_text.mono_l : ∀ k, (∀ y0 y1 y2 y3 y4 y5 y6 y7 y8 y9, LeO (impl_Shape_text.l0 k y0 y1 y2 y3 y4 y5 y6 y7 y8 y9) (impl_Shape_text.l0 (k + 1) y0 y1 y2 y3 y4 y5 y6 y7 y8 y9))
  | 0 => fun _ _ _ _ _ _ _ _ _ _ r h => by simp [impl_Shape_text.l0] at h
  | k + 1 => by
    have ih0 := impl_Shape_text.mono_l k
    · intro y0 y1 y2 y3 y4 y5 y6 y7 y8 y9
      unfold impl_Shape_text.l0
      repeat' first
      | (with_reducible exact ih0 _ _ _ _ _ _ _ _ _ _)
      | (with_reducible exact LeO.refl _)
      | (with_reducible exact LeO.none _)
      | (with_reducible refine LeO.ite ?_ ?_)
      | (with_reducible refine LeO.bind ?_ (fun _ => ?_))
      | exact ih0 _ _ _ _ _ _ _ _ _ _
      | exact LeO.none _
      | refine LeO.ite ?_ ?_
      | refine LeO.bind ?_ (fun _ => ?_)

theorem impl_Shape_text.mono : ∀ a0 a1 a2 a3 a4 a5 k, LeO (impl_Shape_text.f k a0 a1 a2 a3 a4 a5) (impl_Shape_text.f (k + 1) a0 a1 a2 a3 a4 a5) := by
  intro a0 a1 a2 a3 a4 a5 k
  have ih0 := impl_Shape_text.mono_l k
  unfold impl_Shape_text.f
  repeat' first
      | (with_reducible exact ih0 _ _ _ _ _ _ _ _ _ _)
      | (with_reducible exact LeO.refl _)
      | (with_reducible exact LeO.none _)
      | (with_reducible refine LeO.ite ?_ ?_)
      | (with_reducible refine LeO.bind ?_ (fun _ => ?_))
      | exact ih0 _ _ _ _ _ _ _ _ _ _
      | exact LeO.none _
      | refine LeO.ite ?_ ?_
      | refine LeO.bind ?_ (fun _ => ?_)

def impl_Shape_text.e (k : Nat) : Refl.Ent G := ⟨29, [(.agg [li, li, li, li, li, .bool])], .one (.c .str), fun x => impl_Shape_text.f k x.1 x.2.1 x.2.2.1 x.2.2.2.1 x.2.2.2.2.1 x.2.2.2.2.2⟩
def impl_Shape_text.pl0 : Refl.Pn G (Refl.PT G (impl_Shape_text.e 0).ol) := ⟨true, 0, ⟨[(3, .v (.c .str)), (10, .v (.c (.row 3 false))), (11, .v (.c li)), (12, .v (.c li)), (1, .box 1 0)], [(1, 35, gL1)]⟩, fun k x => impl_Shape_text.l0 k x.1 x.2.1 x.2.2.1 x.2.2.2.1 x.2.2.2.2.1 x.2.2.2.2.2.1 x.2.2.2.2.2.2.1 x.2.2.2.2.2.2.2.1 x.2.2.2.2.2.2.2.2.1 x.2.2.2.2.2.2.2.2.2⟩
theorem impl_Shape_text.ok (k : Nat) : Refl.EntOK Tryd.prog (impl_Shape_text.e k) := Refl.ent_ok 1000000 k GC (fun k => [strconv_Itoa.e k, impl_Shape_bends.e k]) (fun k => ⟨strconv_Itoa.ok k, impl_Shape_bends.ok k, trivial⟩) Tryd.func29 (by kernel_rfl) [impl_Shape_text.pl0] (ps := [impl_Shape_text.pl0]) (by kernel_rfl) ⟨⟨fun x => by kernel_rfl, fun k x => by kernel_rfl⟩, trivial⟩ (fun x => by kernel_rfl)

/-! ### impl_Orient_text: function 30 -/

def impl_Orient_text.f (a0_0 : Int) (a0_1 : Int) : Option (ByteArray) := if 0 ≤ a0_0 then (if a0_0 ≤ (wrap64 (a0_0 + 1)) then (if (wrap64 (a0_0 + 1)) ≤ 6 then (if 0 ≤ a0_1 then (if a0_1 ≤ (wrap64 (a0_1 + 1)) then (if (wrap64 (a0_1 + 1)) ≤ 6 then (if ((⟨#[117, 100, 108, 114, 102, 98]⟩ : ByteArray).extract (a0_0 : Int).toNat ((wrap64 (a0_0 + 1)) : Int).toNat).size + ((⟨#[117, 100, 108, 114, 102, 98]⟩ : ByteArray).extract (a0_1 : Int).toNat ((wrap64 (a0_1 + 1)) : Int).toNat).size ≤ 9223372036854775807 then (some (((⟨#[117, 100, 108, 114, 102, 98]⟩ : ByteArray).extract (a0_0 : Int).toNat ((wrap64 (a0_0 + 1)) : Int).toNat) ++ ((⟨#[117, 100, 108, 114, 102, 98]⟩ : ByteArray).extract (a0_1 : Int).toNat ((wrap64 (a0_1 + 1)) : Int).toNat))) else (none)) else (none)) else (none)) else (none)) else (none)) else (none)) else (none)

def impl_Orient_text.e (k : Nat) : Refl.Ent G := ⟨30, [(.agg [li, li])], .one (.c .str), fun x => impl_Orient_text.f x.1 x.2⟩
theorem impl_Orient_text.ok (k : Nat) : Refl.EntOK Tryd.prog (impl_Orient_text.e k) := Refl.ent_ok 1000000 k GC (fun k => []) (fun k => trivial) Tryd.func30 (by kernel_rfl) [] (ps := []) (by kernel_rfl) trivial (fun x => by kernel_rfl)

/-! ### impl_Place_text: function 31 -/

def impl_Place_text.f (a0_0 : Int) (a0_1 : Int) (a0_2 : Bool) : Option ByteArray :=
  if 0 ≤ a0_0 ∧ a0_0 < 10 ∧ -1 ≤ a0_1 ∧ a0_1 ≤ 1 then some (plNms.getD a0_0.toNat ⟨#[]⟩ ++ plSide a0_1 ++ (if a0_2 = true then ⟨#[42]⟩ else ⟨#[]⟩)) else none
set_option maxHeartbeats 4000000 in
set_option maxRecDepth 100000 in
theorem plText_walk (k : Nat) (a0_1 : Int) (b : Bool) (w : World) (h1 : k < 10) (h2 : -1 ≤ a0_1) (h3 : a0_1 ≤ 1) :
    Calls Tryd.prog 31 #[.agg #[.int .i64 (k : Int), .int .i64 a0_1, .bool b]] w fun e w' => e = .returned (.string (plNms.getD k ⟨#[]⟩ ++ plSide a0_1 ++ (if b = true then ⟨#[42]⟩ else ⟨#[]⟩))) ∧ Below w.heap.size w w' := by
  have hc : ∀ o, ((w.alloc o).alloc (Obj.cells #[Value.string { data := #[115, 112, 97, 99, 101] }, Value.string { data := #[104, 101, 97, 100] }, Value.string { data := #[101, 121, 101] }, Value.string { data := #[99, 104, 101, 101, 107] }, Value.string { data := #[109, 111, 117, 116, 104] }, Value.string { data := #[99, 104, 105, 110] }, Value.string { data := #[110, 101, 99, 107] }, Value.string { data := #[99, 104, 101, 115, 116] }, Value.string { data := #[119, 97, 105, 115, 116] }, Value.string { data := #[104, 105, 112] }] 72)).cell? ⟨w.heap.size + 1, k, none⟩ = some (.string (plNms.getD k ⟨#[]⟩)) := fun o => by
    have := arr_cell (w.alloc o) _ 72 k _ (plNms_at k h1)
    rwa [World.size_alloc] at this
  have hi : ∀ (W : World) g, (Instr.indexAt 72 (.pointer (some ⟨g, 0, none⟩)) (.int .i64 (k : Int))).run Tryd.prog W = .ok (.pointer (some ⟨g, k, none⟩)) W := by
    intro W g
    rw [run_indexAt_array (h := Tryd.underlying72), if_pos ⟨by omega, by show (k : Int) < 10; omega⟩]
    show Result.ok _ _ = _
    show Result.ok (Value.pointer (some ((⟨g, 0, none⟩ : Addr).add (k * 1)))) W = _
    rw [Nat.mul_one, add_plain]
  have hn := plNms_size k
  generalize plNms.getD k ⟨#[]⟩ = nm at *
  have t0 := decide_eq_true (show nm.size ≤ 9223372036854775807 by omega)
  have u0 := eq_false (show ¬ (9223372036854775807 < nm.size) by omega)
  have t1 := decide_eq_true (show nm.size + 1 ≤ 9223372036854775807 by omega)
  have u1 := eq_false (show ¬ (9223372036854775807 < nm.size + 1) by omega)
  have t2 := decide_eq_true (show nm.size + 1 + 1 ≤ 9223372036854775807 by omega)
  have u2 := eq_false (show ¬ (9223372036854775807 < nm.size + 1 + 1) by omega)
  have h4 : a0_1 = -1 ∨ a0_1 = 0 ∨ a0_1 = 1 := by omega
  have i0 : ∀ W : World, (Instr.index 73 (.agg #[.string { data := #[60] }, .string { data := #[] }, .string { data := #[62] }]) (.int .i64 0)).run Tryd.prog W = .ok (.string { data := #[60] }) W := fun _ => by kernel_rfl
  have i1 : ∀ W : World, (Instr.index 73 (.agg #[.string { data := #[60] }, .string { data := #[] }, .string { data := #[62] }]) (.int .i64 1)).run Tryd.prog W = .ok (.string { data := #[] }) W := fun _ => by kernel_rfl
  have i2 : ∀ W : World, (Instr.index 73 (.agg #[.string { data := #[60] }, .string { data := #[] }, .string { data := #[62] }]) (.int .i64 2)).run Tryd.prog W = .ok (.string { data := #[62] }) W := fun _ => by kernel_rfl
  have r0 : IntKind.i64.wrap 0 = 0 := rfl
  have r1 : IntKind.i64.wrap 1 = 1 := rfl
  have r2 : IntKind.i64.wrap 2 = 2 := rfl
  clear h2 h3 h1 hn
  rcases h4 with rfl | rfl | rfl <;> cases b
  all_goals
    go_enter Tryd.func31, Tryd.ntmps31
    go_wp2
    go_quiet (fail)
    go_wp2
    go_ret
    exact ⟨by simp [plSide, bs_app_nil], by repeat (first | exact Below.refl _ _ | apply pw_below_drewN | apply below_drew1 | apply below_alloc)⟩
theorem impl_Place_text.calls (a0_0 : Int) (a0_1 : Int) (a0_2 : Bool) (r : ByteArray) (w : World) (h : impl_Place_text.f a0_0 a0_1 a0_2 = some r) :
    Calls Tryd.prog 31 #[.agg #[.int .i64 a0_0, .int .i64 a0_1, .bool a0_2]] w fun e w' => e = .returned (.string r) ∧ Below w.heap.size w w' := by
  unfold impl_Place_text.f at h
  split at h
  · rename_i hc
    obtain rfl := Option.some.inj h
    obtain ⟨k, rfl⟩ := Int.eq_ofNat_of_zero_le hc.1
    exact plText_walk k a0_1 a0_2 w (by omega) hc.2.2.1 hc.2.2.2
  · exact absurd h (by simp)

def impl_Place_text.e (k : Nat) : Refl.Ent G := ⟨31, [(.agg [li, li, .bool])], .one (.c .str), fun x => impl_Place_text.f x.1 x.2.1 x.2.2⟩
theorem impl_Place_text.ok (k : Nat) : Refl.EntOK Tryd.prog (impl_Place_text.e k) := Refl.entOK_hand Tryd.func31 (by kernel_rfl) (fun x => by kernel_rfl) (fun y => ⟨by kernel_rfl, by kernel_rfl, by kernel_rfl, by kernel_rfl⟩) (fun x y h w => (impl_Place_text.calls x.1 x.2.1 x.2.2 y w h).mono fun e w' hh => ⟨hh.1, hh.2⟩)

end Go.Proofs.YtaaldnaefdodkaaDoor.PA
