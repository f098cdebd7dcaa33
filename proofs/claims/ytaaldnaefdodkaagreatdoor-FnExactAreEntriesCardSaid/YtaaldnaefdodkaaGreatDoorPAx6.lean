-- Written by a program of this session (wip/tools/myprint.py). Not trusted: Lean checks it.
import Derived.Test.YtaaldnaefdodkaaGreatDoorCtx
import Derived.Test.YtaaldnaefdodkaaGreatDoorPAx1
import Derived.Test.YtaaldnaefdodkaaGreatDoorPAx5
namespace Go.Proofs.YtaaldnaefdodkaaGreatDoor.PA
open Go.RowKit Go.Proofs.YtaaldnaefdodkaaGreatDoorW.PrintWords Go.Proofs.YtaaldnaefdodkaaGreatDoorW.PrintLast Go.Proofs.YtaaldnaefdodkaaGreatDoorW.PrintMore
attribute [local go_sem] max2_int min2_int max_two min_two max_three min_three max_four min_four   -- for this text's walks alone
set_option linter.unusedVariables false
set_option linter.unusedSimpArgs false

attribute [local go_sem high] eqA63
/-! ### laws_toEntryS: function 9 -/

def laws_toEntryS.l0 : Nat → List (S62) → List (S71) → Int → Option ((List (S71)))
  | 0, _, _, _ => none
  | k + 1, x0, x3, x4 => if x4 < (x0.length : Int) then (if 0 ≤ x4 then (if x4 < (x0.length : Int) then ((laws_toEntry.f ((rd_T62 x0 x4).f0) ((rd_T62 x0 x4).f1.f0.f0.f0) ((rd_T62 x0 x4).f1.f0.f0.f1) ((rd_T62 x0 x4).f1.f0.f0.f2) ((rd_T62 x0 x4).f1.f0.f0.f3) ((rd_T62 x0 x4).f1.f0.f0.f4) ((rd_T62 x0 x4).f1.f0.f0.f5) ((rd_T62 x0 x4).f1.f0.f1.f0) ((rd_T62 x0 x4).f1.f0.f1.f1) ((rd_T62 x0 x4).f1.f0.f2.f0) ((rd_T62 x0 x4).f1.f0.f2.f1) ((rd_T62 x0 x4).f1.f0.f2.f2) ((rd_T62 x0 x4).f1.f0.f3.f0) ((rd_T62 x0 x4).f1.f0.f3.f1) ((rd_T62 x0 x4).f1.f1) ((rd_T62 x0 x4).f1.f2.f0.f0) ((rd_T62 x0 x4).f1.f2.f0.f1) ((rd_T62 x0 x4).f1.f2.f0.f2) ((rd_T62 x0 x4).f1.f2.f0.f3) ((rd_T62 x0 x4).f1.f2.f0.f4) ((rd_T62 x0 x4).f1.f2.f0.f5) ((rd_T62 x0 x4).f1.f2.f1.f0) ((rd_T62 x0 x4).f1.f2.f1.f1) ((rd_T62 x0 x4).f1.f2.f2.f0) ((rd_T62 x0 x4).f1.f2.f2.f1) ((rd_T62 x0 x4).f1.f2.f2.f2) ((rd_T62 x0 x4).f1.f2.f3.f0) ((rd_T62 x0 x4).f1.f2.f3.f1) ((rd_T62 x0 x4).f2) ((rd_T62 x0 x4).f3)).bind fun bt282 => (if 0 ≤ x4 then (if x4 < (x3.length : Int) then (laws_toEntryS.l0 k x0 (x3.set (x4 : Int).toNat (⟨bt282.1, (⟨(⟨(⟨bt282.2.1, bt282.2.2.1, bt282.2.2.2.1, bt282.2.2.2.2.1, bt282.2.2.2.2.2.1, bt282.2.2.2.2.2.2.1⟩ : S63), (⟨bt282.2.2.2.2.2.2.2.1, bt282.2.2.2.2.2.2.2.2.1⟩ : S64), (⟨bt282.2.2.2.2.2.2.2.2.2.1, bt282.2.2.2.2.2.2.2.2.2.2.1, bt282.2.2.2.2.2.2.2.2.2.2.2.1⟩ : S65), (⟨bt282.2.2.2.2.2.2.2.2.2.2.2.2.1, bt282.2.2.2.2.2.2.2.2.2.2.2.2.2.1⟩ : S31)⟩ : S67), bt282.2.2.2.2.2.2.2.2.2.2.2.2.2.2.1, (⟨(⟨bt282.2.2.2.2.2.2.2.2.2.2.2.2.2.2.2.1, bt282.2.2.2.2.2.2.2.2.2.2.2.2.2.2.2.2.1, bt282.2.2.2.2.2.2.2.2.2.2.2.2.2.2.2.2.2.1, bt282.2.2.2.2.2.2.2.2.2.2.2.2.2.2.2.2.2.2.1, bt282.2.2.2.2.2.2.2.2.2.2.2.2.2.2.2.2.2.2.2.1, bt282.2.2.2.2.2.2.2.2.2.2.2.2.2.2.2.2.2.2.2.2.1⟩ : S63), (⟨bt282.2.2.2.2.2.2.2.2.2.2.2.2.2.2.2.2.2.2.2.2.2.1, bt282.2.2.2.2.2.2.2.2.2.2.2.2.2.2.2.2.2.2.2.2.2.2.1⟩ : S64), (⟨bt282.2.2.2.2.2.2.2.2.2.2.2.2.2.2.2.2.2.2.2.2.2.2.2.1, bt282.2.2.2.2.2.2.2.2.2.2.2.2.2.2.2.2.2.2.2.2.2.2.2.2.1, bt282.2.2.2.2.2.2.2.2.2.2.2.2.2.2.2.2.2.2.2.2.2.2.2.2.2.1⟩ : S65), (⟨bt282.2.2.2.2.2.2.2.2.2.2.2.2.2.2.2.2.2.2.2.2.2.2.2.2.2.2.1, bt282.2.2.2.2.2.2.2.2.2.2.2.2.2.2.2.2.2.2.2.2.2.2.2.2.2.2.2.1⟩ : S31)⟩ : S67)⟩ : S69), bt282.2.2.2.2.2.2.2.2.2.2.2.2.2.2.2.2.2.2.2.2.2.2.2.2.2.2.2.2.1, bt282.2.2.2.2.2.2.2.2.2.2.2.2.2.2.2.2.2.2.2.2.2.2.2.2.2.2.2.2.2⟩ : S71)) (wrap64 (x4 + 1))) else (none)) else (none))) else (none)) else (none)) else (some x3)

def laws_toEntryS.f (k : Nat) (l0 : List (S62)) : Option ((List (S71))) := if 0 ≤ (l0.length : Int) then (if ((l0.length : Int) : Int).toNat ≤ 1066193093600 then (laws_toEntryS.l0 k l0 (List.replicate ((l0.length : Int) : Int).toNat z71) 0) else (none)) else (none)

theorem laws_toEntryS.mono_l : ∀ k, (∀ y0 y1 y2, LeO (laws_toEntryS.l0 k y0 y1 y2) (laws_toEntryS.l0 (k + 1) y0 y1 y2))
  | 0 => fun _ _ _ r h => by simp [laws_toEntryS.l0] at h
  | k + 1 => by
    have ih0 := laws_toEntryS.mono_l k
    · intro y0 y1 y2
      unfold laws_toEntryS.l0
      repeat' first
      | (with_reducible exact ih0 _ _ _)
      | (with_reducible exact LeO.refl _)
      | (with_reducible exact LeO.none _)
      | (with_reducible refine LeO.ite ?_ ?_)
      | (with_reducible refine LeO.bind ?_ (fun _ => ?_))
      | exact ih0 _ _ _
      | exact LeO.none _
      | refine LeO.ite ?_ ?_
      | refine LeO.bind ?_ (fun _ => ?_)

theorem laws_toEntryS.mono : ∀ a0 k, LeO (laws_toEntryS.f k a0) (laws_toEntryS.f (k + 1) a0) := by
  intro a0 k
  have ih0 := laws_toEntryS.mono_l k
  unfold laws_toEntryS.f
  repeat' first
      | (with_reducible exact ih0 _ _ _)
      | (with_reducible exact LeO.refl _)
      | (with_reducible exact LeO.none _)
      | (with_reducible refine LeO.ite ?_ ?_)
      | (with_reducible refine LeO.bind ?_ (fun _ => ?_))
      | exact ih0 _ _ _
      | exact LeO.none _
      | refine LeO.ite ?_ ?_
      | refine LeO.bind ?_ (fun _ => ?_)

def laws_toEntryS.e (k : Nat) : Refl.Ent G := ⟨9, [(.c (.row 62 false))], .one (.c (.row 71 true)), fun x => laws_toEntryS.f k x⟩
def laws_toEntryS.pl0 : Refl.Pn G (Refl.PT G (laws_toEntryS.e 0).ol) := ⟨true, 0, ⟨[(0, .v (.c (.row 62 false))), (3, .v (.c (.own 71))), (4, .v (.c li))], []⟩, fun k x => laws_toEntryS.l0 k x.1 x.2.1 x.2.2⟩
theorem laws_toEntryS.ok (k : Nat) : Refl.EntOK Tryz.prog (laws_toEntryS.e k) := Refl.ent_ok 1000000 k GC (fun k => [laws_toEntry.e k]) (fun k => ⟨laws_toEntry.ok k, trivial⟩) Tryz.func9 (by kernel_rfl) [laws_toEntryS.pl0] (ps := [laws_toEntryS.pl0]) (by kernel_rfl) ⟨⟨fun x => by kernel_rfl, fun k x => by kernel_rfl⟩, trivial⟩ (fun x => by kernel_rfl)

/-! ### impl_within: function 54 -/

def impl_within.f (a0 : Int) (a1 : Int) (a2 : Int) : Option (Bool) := if a0 ≥ a1 then (some (decide (a0 ≤ a2))) else (some false)

def impl_within.e (k : Nat) : Refl.Ent G := ⟨54, [(.c li), (.c li), (.c li)], .one (.c .bool), fun x => impl_within.f x.1 x.2.1 x.2.2⟩
theorem impl_within.ok (k : Nat) : Refl.EntOK Tryz.prog (impl_within.e k) := Refl.ent_ok 1000000 k GC (fun k => []) (fun k => trivial) Tryz.func54 (by kernel_rfl) [] (ps := []) (by kernel_rfl) trivial (fun x => by kernel_rfl)

/-! ### strings_IndexByte: function 84 -/

def strings_IndexByte.f (a0 : ByteArray) (a1 : Int) : Option Int := some (Lib.indexByte a0.data.toList a1.toNat.toUInt8)
theorem strings_IndexByte.calls (a0 : ByteArray) (a1 : Int) (r : Int) (w : World) (h : strings_IndexByte.f a0 a1 = some r) :
    Calls Tryz.prog 84 #[.string a0, .int .u8 a1] w fun e w' => e = .returned (.int .i64 r) ∧ Drawn0 w w' := by
  obtain rfl := Option.some.inj h
  exact (Tryz.strings_IndexByte a0 a1 w).mono fun e w' ⟨he, hw⟩ => ⟨he, hw ▸ Drawn0.refl _⟩

def strings_IndexByte.e (k : Nat) : Refl.Ent G := ⟨84, [(.c .str), (.c (.int .u8))], .one (.c li), fun x => strings_IndexByte.f x.1 x.2⟩
theorem strings_IndexByte.ok (k : Nat) : Refl.EntOK Tryz.prog (strings_IndexByte.e k) := Refl.entOK_hand Tryz.func84 (by kernel_rfl) (fun x => by kernel_rfl) (fun y => ⟨by kernel_rfl, by kernel_rfl, by kernel_rfl, by kernel_rfl⟩) (fun x y h w => (strings_IndexByte.calls x.1 x.2 y w h).mono fun e w' hh => ⟨hh.1, hh.2.below⟩)

/-! ### impl_hasOnly: function 53 -/

def impl_hasOnly.l0 : Nat → ByteArray → ByteArray → Int → Int → Option (Bool)
  | 0, _, _, _, _ => none
  | k + 1, x0, x1, x7, x8 => if x8 < x7 then (if 0 ≤ x8 then (if x8 < (x0.size : Int) then ((strings_IndexByte.f x1 (bt x0 x8)).bind fun t313 => (if t313 < 0 then (some false) else (impl_hasOnly.l0 k x0 x1 x7 (wrap64 (x8 + 1))))) else (none)) else (none)) else (some true)

def impl_hasOnly.f (k : Nat) (a0 : ByteArray) (a1 : ByteArray) : Option (Bool) := impl_hasOnly.l0 k a0 a1 (a0.size : Int) 0

theorem impl_hasOnly.mono_l : ∀ k, (∀ y0 y1 y2 y3, LeO (impl_hasOnly.l0 k y0 y1 y2 y3) (impl_hasOnly.l0 (k + 1) y0 y1 y2 y3))
  | 0 => fun _ _ _ _ r h => by simp [impl_hasOnly.l0] at h
  | k + 1 => by
    have ih0 := impl_hasOnly.mono_l k
    · intro y0 y1 y2 y3
      unfold impl_hasOnly.l0
      repeat' first
      | (with_reducible exact ih0 _ _ _ _)
      | (with_reducible exact LeO.refl _)
      | (with_reducible exact LeO.none _)
      | (with_reducible refine LeO.ite ?_ ?_)
      | (with_reducible refine LeO.bind ?_ (fun _ => ?_))
      | exact ih0 _ _ _ _
      | exact LeO.none _
      | refine LeO.ite ?_ ?_
      | refine LeO.bind ?_ (fun _ => ?_)

theorem impl_hasOnly.mono : ∀ a0 a1 k, LeO (impl_hasOnly.f k a0 a1) (impl_hasOnly.f (k + 1) a0 a1) := by
  intro a0 a1 k
  have ih0 := impl_hasOnly.mono_l k
  unfold impl_hasOnly.f
  repeat' first
      | (with_reducible exact ih0 _ _ _ _)
      | (with_reducible exact LeO.refl _)
      | (with_reducible exact LeO.none _)
      | (with_reducible refine LeO.ite ?_ ?_)
      | (with_reducible refine LeO.bind ?_ (fun _ => ?_))
      | exact ih0 _ _ _ _
      | exact LeO.none _
      | refine LeO.ite ?_ ?_
      | refine LeO.bind ?_ (fun _ => ?_)

def impl_hasOnly.e (k : Nat) : Refl.Ent G := ⟨53, [(.c .str), (.c .str)], .one (.c .bool), fun x => impl_hasOnly.f k x.1 x.2⟩
def impl_hasOnly.pl0 : Refl.Pn G (Refl.PT G (impl_hasOnly.e 0).ol) := ⟨true, 0, ⟨[(0, .v (.c .str)), (1, .v (.c .str)), (7, .v (.c li)), (8, .v (.c li)), (4, .k (Value.bool false))], []⟩, fun k x => impl_hasOnly.l0 k x.1 x.2.1 x.2.2.1 x.2.2.2⟩
theorem impl_hasOnly.ok (k : Nat) : Refl.EntOK Tryz.prog (impl_hasOnly.e k) := Refl.ent_ok 1000000 k GC (fun k => [strings_IndexByte.e k]) (fun k => ⟨strings_IndexByte.ok k, trivial⟩) Tryz.func53 (by kernel_rfl) [impl_hasOnly.pl0] (ps := [impl_hasOnly.pl0]) (by kernel_rfl) ⟨⟨fun x => by kernel_rfl, fun k x => by kernel_rfl⟩, trivial⟩ (fun x => by kernel_rfl)

/-! ### impl_isWordOf: function 105 -/

def impl_isWordOf.f (k : Nat) (a0 : ByteArray) (a1 : ByteArray) : Option (Bool) := (impl_within.f (a0.size : Int) 1 8).bind fun t314 => (if t314 = true then ((impl_hasOnly.f k a0 a1).bind fun t315 => (some t315)) else (some false))

theorem impl_isWordOf.mono : ∀ a0 a1 k, LeO (impl_isWordOf.f k a0 a1) (impl_isWordOf.f (k + 1) a0 a1) := by
  intro a0 a1 k
  unfold impl_isWordOf.f
  repeat' first
      | (with_reducible exact impl_hasOnly.mono _ _ _)
      | (with_reducible exact LeO.refl _)
      | (with_reducible exact LeO.none _)
      | (with_reducible refine LeO.ite ?_ ?_)
      | (with_reducible refine LeO.bind ?_ (fun _ => ?_))
      | exact impl_hasOnly.mono _ _ _
      | exact LeO.none _
      | refine LeO.ite ?_ ?_
      | refine LeO.bind ?_ (fun _ => ?_)

def impl_isWordOf.e (k : Nat) : Refl.Ent G := ⟨105, [(.c .str), (.c .str)], .one (.c .bool), fun x => impl_isWordOf.f k x.1 x.2⟩
theorem impl_isWordOf.ok (k : Nat) : Refl.EntOK Tryz.prog (impl_isWordOf.e k) := Refl.ent_ok 1000000 k GC (fun k => [impl_within.e k, impl_hasOnly.e k]) (fun k => ⟨impl_within.ok k, impl_hasOnly.ok k, trivial⟩) Tryz.func105 (by kernel_rfl) [] (ps := []) (by kernel_rfl) trivial (fun x => by kernel_rfl)

/-! ### impl_IsGloss: function 64 -/

def impl_IsGloss.f (k : Nat) (a0 : ByteArray) : Option (Bool) := (impl_isWordOf.f k a0 (⟨#[65, 66, 67, 68, 69, 70, 71, 72, 73, 74, 75, 76, 77, 78, 79, 80, 81, 82, 83, 84, 85, 86, 87, 88, 89, 90]⟩ : ByteArray)).bind fun t316 => (some t316)

theorem impl_IsGloss.mono : ∀ a0 k, LeO (impl_IsGloss.f k a0) (impl_IsGloss.f (k + 1) a0) := by
  intro a0 k
  unfold impl_IsGloss.f
  repeat' first
      | (with_reducible exact impl_isWordOf.mono _ _ _)
      | (with_reducible exact LeO.refl _)
      | (with_reducible exact LeO.none _)
      | (with_reducible refine LeO.ite ?_ ?_)
      | (with_reducible refine LeO.bind ?_ (fun _ => ?_))
      | exact impl_isWordOf.mono _ _ _
      | exact LeO.none _
      | refine LeO.ite ?_ ?_
      | refine LeO.bind ?_ (fun _ => ?_)

def impl_IsGloss.e (k : Nat) : Refl.Ent G := ⟨64, [(.c .str)], .one (.c .bool), fun x => impl_IsGloss.f k x⟩
theorem impl_IsGloss.ok (k : Nat) : Refl.EntOK Tryz.prog (impl_IsGloss.e k) := Refl.ent_ok 1000000 k GC (fun k => [impl_isWordOf.e k]) (fun k => ⟨impl_isWordOf.ok k, trivial⟩) Tryz.func64 (by kernel_rfl) [] (ps := []) (by kernel_rfl) trivial (fun x => by kernel_rfl)

/-! ### impl_IsMove: function 25 -/

def impl_IsMove.f (k : Nat) (a0_0 : ByteArray) (a0_1 : Int) : Option (Bool) := if (a0_0.size : Int) ≤ 6 then ((impl_hasOnly.f k a0_0 (⟨#[117, 100, 108, 114, 102, 98]⟩ : ByteArray)).bind fun t318 => (if t318 = true then ((impl_within.f a0_1 1 3).bind fun t319 => (if t319 = true then (if a0_0.toList = ([] : List UInt8) then (some (a0_1 == 1)) else (some true)) else (some false))) else (some false))) else (some false)

theorem impl_IsMove.mono : ∀ a0 a1 k, LeO (impl_IsMove.f k a0 a1) (impl_IsMove.f (k + 1) a0 a1) := by
  intro a0 a1 k
  unfold impl_IsMove.f
  repeat' first
      | (with_reducible exact impl_hasOnly.mono _ _ _)
      | (with_reducible exact LeO.refl _)
      | (with_reducible exact LeO.none _)
      | (with_reducible refine LeO.ite ?_ ?_)
      | (with_reducible refine LeO.bind ?_ (fun _ => ?_))
      | exact impl_hasOnly.mono _ _ _
      | exact LeO.none _
      | refine LeO.ite ?_ ?_
      | refine LeO.bind ?_ (fun _ => ?_)

def impl_IsMove.e (k : Nat) : Refl.Ent G := ⟨25, [(.agg [.str, li])], .one (.c .bool), fun x => impl_IsMove.f k x.1 x.2⟩
theorem impl_IsMove.ok (k : Nat) : Refl.EntOK Tryz.prog (impl_IsMove.e k) := Refl.ent_ok 1000000 k GC (fun k => [impl_hasOnly.e k, impl_within.e k]) (fun k => ⟨impl_hasOnly.ok k, impl_within.ok k, trivial⟩) Tryz.func25 (by kernel_rfl) [] (ps := []) (by kernel_rfl) trivial (fun x => by kernel_rfl)

/-! ### impl_Shape_bends: function 136 -/

def impl_Shape_bends.f (a0_0 : Int) (a0_1 : Int) (a0_2 : Int) (a0_3 : Int) (a0_4 : Int) (a0_5 : Bool) : Option (List Int) := some (([a0_1, a0_2, a0_3, a0_4] : List Int))

def impl_Shape_bends.e (k : Nat) : Refl.Ent G := ⟨136, [(.agg [li, li, li, li, li, .bool])], .one (.c (.row 3 true)), fun x => impl_Shape_bends.f x.1 x.2.1 x.2.2.1 x.2.2.2.1 x.2.2.2.2.1 x.2.2.2.2.2⟩
theorem impl_Shape_bends.ok (k : Nat) : Refl.EntOK Tryz.prog (impl_Shape_bends.e k) := Refl.ent_ok 1000000 k GC (fun k => []) (fun k => trivial) Tryz.func136 (by kernel_rfl) [] (ps := []) (by kernel_rfl) trivial (fun x => by kernel_rfl)

/-! ### impl_Shape_maySpread: function 180 -/

def impl_Shape_maySpread.f (a0_0 : Int) (a0_1 : Int) (a0_2 : Int) (a0_3 : Int) (a0_4 : Int) (a0_5 : Bool) : Option (Bool) := if a0_2 = 0 then (if a0_1 = 0 then (some true) else (if a0_3 = 0 then (some true) else (if a0_3 = 0 then (some (a0_4 == 0)) else (some false)))) else (if a0_3 = 0 then (some (a0_4 == 0)) else (some false))

def impl_Shape_maySpread.e (k : Nat) : Refl.Ent G := ⟨180, [(.agg [li, li, li, li, li, .bool])], .one (.c .bool), fun x => impl_Shape_maySpread.f x.1 x.2.1 x.2.2.1 x.2.2.2.1 x.2.2.2.2.1 x.2.2.2.2.2⟩
theorem impl_Shape_maySpread.ok (k : Nat) : Refl.EntOK Tryz.prog (impl_Shape_maySpread.e k) := Refl.ent_ok 1000000 k GC (fun k => []) (fun k => trivial) Tryz.func180 (by kernel_rfl) [] (ps := []) (by kernel_rfl) trivial (fun x => by kernel_rfl)

/-! ### impl_allWithin: function 181 -/

def awOut (a1 a2 x : Int) : Bool := !decide (a1 ≤ x ∧ x ≤ a2)
/-- The first place with such a number, or -1. -/

def awIdx (a1 a2 : Int) : Nat → List Int → Int
  | _, [] => -1
  | i, x :: xs => if awOut a1 a2 x = true then (i : Int) else awIdx a1 a2 (i + 1) xs

def awAll (a1 a2 : Int) (l : List Int) : Bool := l.all fun x => decide (a1 ≤ x ∧ x ≤ a2)

theorem awIdx_all (a1 a2 : Int) : ∀ (l : List Int) (i : Nat), (!decide (0 ≤ awIdx a1 a2 i l)) = awAll a1 a2 l
  | [], i => by simp [awIdx, awAll]
  | x :: xs, i => by
    unfold awIdx
    by_cases h : awOut a1 a2 x = true
    · rw [if_pos h]
      unfold awOut at h
      simp only [Bool.not_eq_true'] at h
      simp only [awAll, List.all_cons, h, Bool.false_and]
      simp
    · rw [if_neg h, awIdx_all a1 a2 xs (i + 1)]
      unfold awOut at h
      simp only [Bool.not_eq_true', Bool.not_eq_false] at h
      simp only [awAll, List.all_cons, h, Bool.true_and]

theorem aw_within (a b c : Int) : impl_within.f a b c = some (decide (b ≤ a ∧ a ≤ c)) := by
  unfold impl_within.f
  by_cases h : b ≤ a
  · rw [if_pos h]; simp [h]
  · rw [if_neg h]; simp [h]

def AWFrom (a1 a2 : Int) (l : List Int) (i : Nat) (r : Int) : Prop := i ≤ l.length ∧ awIdx a1 a2 i (l.drop i) = r

theorem aw_step {a1 a2 : Int} {l : List Int} {i : Nat} {r : Int} (h : AWFrom a1 a2 l i r) (hlt : i < l.length) : (awOut a1 a2 (rd l (i : Int)) = false → AWFrom a1 a2 l (i + 1) r) ∧ (awOut a1 a2 (rd l (i : Int)) = true → r = (i : Int)) := by
  obtain ⟨_, h⟩ := h
  rw [List.drop_eq_getElem_cons hlt] at h
  unfold awIdx at h
  have e : rd l (i : Int) = l[i] := by
    unfold rd
    rw [List.getD_eq_getElem?_getD]
    simp [hlt]
  rw [e]
  refine ⟨fun e => ?_, fun e => ?_⟩
  · rw [e, if_neg (by decide)] at h; exact ⟨by omega, h⟩
  · rw [if_pos e] at h; exact h.symm

theorem aw_end {a1 a2 : Int} {l : List Int} {i : Nat} {r : Int} (h : AWFrom a1 a2 l i r) (hge : ¬ i < l.length) : r = -1 := by
  obtain ⟨hi, h⟩ := h
  rw [List.drop_eq_nil_of_le (by omega)] at h
  exact h.symm

def impl_allWithin.f (l0 : List Int) (a1 a2 : Int) : Option Bool := if l0.length ≤ 1000 then some (awAll a1 a2 l0) else none

def impl_allWithin.e (k : Nat) : Refl.Ent G := ⟨181, [(.c (.row 3 false)), (.c li), (.c li)], .one (.c .bool), fun x => impl_allWithin.f x.1 x.2.1 x.2.2⟩
def aw1.f (x a b : Int) : Option Bool := (impl_within.f x a b).bind fun t => some (!t)
def aw1.e (k : Nat) : Refl.Ent G := ⟨204, [.c li, .ref [li], .ref [li]], .one (.c .bool), fun x => aw1.f x.1 x.2.1 x.2.2⟩
theorem aw1.ok (k : Nat) : Refl.EntOK Tryz.prog (aw1.e k) := Refl.ent_ok 1000000 k GC (fun k => [impl_within.e k]) (fun k => ⟨impl_within.ok k, trivial⟩) Tryz.func204 (by kernel_rfl) [] (ps := []) (by kernel_rfl) trivial (fun x => by kernel_rfl)
def aw2.l0 : Nat → List Int → Int → Int → Int → Int → Option Int
  | 0, _, _, _, _, _ => none
  | k + 1, l, a, b, n, i => if i < n then (if 0 ≤ i then (if i < (l.length : Int) then ((aw1.f (rd l i) a b).bind fun t => if t = true then (some i) else (aw2.l0 k l a b n (wrap64 (i + 1)))) else (none)) else (none)) else (some (-1))
def aw2.f (k : Nat) (l : List Int) (a b : Int) : Option Int := aw2.l0 k l a b (l.length : Int) 0
def aw2.e (k : Nat) : Refl.Ent G := ⟨217, [.c (.row 3 false), .clo 204 [[li], [li]]], .one (.c li), fun x => aw2.f k x.1 x.2.1 x.2.2⟩
def aw2.p : Refl.Pn G (Refl.PT G (aw2.e 0).ol) := ⟨true, 0, ⟨[(0, .v (.c (.row 3 false))), (1, .v (.clo 204 [[li], [li]])), (7, .v (.c li)), (8, .v (.c li)), (4, .k (.int .i64 0))], []⟩, fun k x => aw2.l0 k x.1 x.2.1 x.2.2.1 x.2.2.2.1 x.2.2.2.2⟩
theorem aw2.ok (k : Nat) : Refl.EntOK Tryz.prog (aw2.e k) := Refl.ent_ok 1000000 k GC (fun k => [aw1.e k]) (fun k => ⟨aw1.ok k, trivial⟩) Tryz.func217 (by kernel_rfl) [aw2.p] (ps := [aw2.p]) (by kernel_rfl) ⟨⟨fun x => by kernel_rfl, fun k x => by kernel_rfl⟩, trivial⟩ (fun x => by kernel_rfl)
def aw3.f (k : Nat) (l : List Int) (a b : Int) : Option Bool := (aw2.f k l a b).bind fun t => some (decide (t ≥ 0))
def aw3.e (k : Nat) : Refl.Ent G := ⟨203, [.c (.row 3 false), .clo 204 [[li], [li]]], .one (.c .bool), fun x => aw3.f k x.1 x.2.1 x.2.2⟩
theorem aw3.ok (k : Nat) : Refl.EntOK Tryz.prog (aw3.e k) := Refl.ent_ok 1000000 k GC (fun k => [aw2.e k]) (fun k => ⟨aw2.ok k, trivial⟩) Tryz.func203 (by kernel_rfl) [] (ps := []) (by kernel_rfl) trivial (fun x => by kernel_rfl)
def aw0.f (k : Nat) (l : List Int) (a b : Int) : Option Bool := (aw3.f k l a b).bind fun t => some (!t)
def aw0.e (k : Nat) : Refl.Ent G := ⟨181, [.c (.row 3 false), .c li, .c li], .one (.c .bool), fun x => aw0.f k x.1 x.2.1 x.2.2⟩
theorem aw0.ok (k : Nat) : Refl.EntOK Tryz.prog (aw0.e k) := Refl.ent_ok 1000000 k GC (fun k => [aw3.e k]) (fun k => ⟨aw3.ok k, trivial⟩) Tryz.func181 (by kernel_rfl) [] (ps := []) (by kernel_rfl) trivial (fun x => by kernel_rfl)
theorem aw1_eq (x a b : Int) : aw1.f x a b = some (awOut a b x) := by
  unfold aw1.f awOut
  rw [aw_within]
  rfl
theorem aw2_eq (l : List Int) (a b : Int) (hl : l.length ≤ 1000) : ∀ (k i : Nat), l.length - i < k → i ≤ l.length → aw2.l0 k l a b (l.length : Int) (i : Int) = some (awIdx a b i (l.drop i))
  | 0, i, h, _ => by omega
  | k + 1, i, h, hi => by
    unfold aw2.l0
    by_cases hlt : i < l.length
    · have hd := List.drop_eq_getElem_cons hlt
      rw [if_pos (by omega), if_pos (by omega), if_pos (by omega), aw1_eq]
      have e : rd l (i : Int) = l[i] := by
        unfold rd
        rw [List.getD_eq_getElem?_getD]
        simp [hlt]
      rw [e, hd]
      simp only [Option.bind_some, awIdx]
      by_cases ho : awOut a b l[i] = true
      · rw [if_pos ho, if_pos ho]
      · rw [if_neg ho, if_neg ho, show wrap64 ((i : Int) + 1) = ((i + 1 : Nat) : Int) from by unfold wrap64; omega]
        exact aw2_eq l a b hl k (i + 1) (by omega) (by omega)
    · rw [if_neg (by omega), List.drop_eq_nil_of_le (by omega)]
      rfl
theorem impl_allWithin.ok (k : Nat) : Refl.EntOK Tryz.prog (impl_allWithin.e k) := (aw0.ok 1002).weaken _ fun x y h => by
  obtain ⟨l, a, b⟩ := x
  have h : impl_allWithin.f l a b = some y := h
  show aw0.f 1002 l a b = some y
  unfold impl_allWithin.f at h
  split at h
  · rename_i hl
    have := aw2_eq l a b hl 1002 0 (by omega) (by omega)
    unfold aw0.f aw3.f aw2.f
    rw [show ((0 : Nat) : Int) = 0 from rfl] at this
    rw [this, ← h, ← awIdx_all a b l 0]
    rfl
  · cases h

/-! ### impl_IsShape: function 131 -/

def impl_IsShape.f (a0_0 : Int) (a0_1 : Int) (a0_2 : Int) (a0_3 : Int) (a0_4 : Int) (a0_5 : Bool) : Option (Bool) := (some (([a0_0] : List Int) : List Int)).bind fun y326 => ((impl_Shape_bends.f a0_0 a0_1 a0_2 a0_3 a0_4 a0_5).bind fun t329 => (if y326.length + t329.length < 17592186044416 then ((impl_allWithin.f (y326 ++ t329) 0 2).bind fun t335 => (if t335 = true then (if a0_5 = true then ((impl_Shape_maySpread.f a0_0 a0_1 a0_2 a0_3 a0_4 a0_5).bind fun t336 => (some t336)) else (some true)) else (some false))) else (none)))

def impl_IsShape.e (k : Nat) : Refl.Ent G := ⟨131, [(.agg [li, li, li, li, li, .bool])], .one (.c .bool), fun x => impl_IsShape.f x.1 x.2.1 x.2.2.1 x.2.2.2.1 x.2.2.2.2.1 x.2.2.2.2.2⟩
theorem impl_IsShape.ok (k : Nat) : Refl.EntOK Tryz.prog (impl_IsShape.e k) := Refl.ent_ok 1000000 k GC (fun k => [impl_Shape_bends.e k, impl_allWithin.e k, impl_Shape_maySpread.e k]) (fun k => ⟨impl_Shape_bends.ok k, impl_allWithin.ok k, impl_Shape_maySpread.ok k, trivial⟩) Tryz.func131 (by kernel_rfl) [] (ps := []) (by kernel_rfl) trivial (fun x => by kernel_rfl)

/-! ### impl_IsOrient: function 132 -/

def impl_IsOrient.f (a0_0 : Int) (a0_1 : Int) : Option (Bool) := (impl_within.f a0_0 0 5).bind fun t338 => (if t338 = true then ((impl_within.f a0_1 0 5).bind fun t339 => (if t339 = true then (some ((wrap64 (Int.tdiv a0_0 2)) != (wrap64 (Int.tdiv a0_1 2)))) else (some false))) else (some false))

def impl_IsOrient.e (k : Nat) : Refl.Ent G := ⟨132, [(.agg [li, li])], .one (.c .bool), fun x => impl_IsOrient.f x.1 x.2⟩
theorem impl_IsOrient.ok (k : Nat) : Refl.EntOK Tryz.prog (impl_IsOrient.e k) := Refl.ent_ok 1000000 k GC (fun k => [impl_within.e k]) (fun k => ⟨impl_within.ok k, trivial⟩) Tryz.func132 (by kernel_rfl) [] (ps := []) (by kernel_rfl) trivial (fun x => by kernel_rfl)

/-! ### impl_IsPlace: function 144 -/

def impl_IsPlace.f (a0_0 : Int) (a0_1 : Int) (a0_2 : Bool) : Option (Bool) := (impl_within.f a0_0 0 9).bind fun t341 => (if t341 = true then ((impl_within.f a0_1 (-1) 1).bind fun t342 => (if t342 = true then (if a0_2 = true then (some (!(a0_0 == 0))) else (some (!false))) else (some false))) else (some false))

def impl_IsPlace.e (k : Nat) : Refl.Ent G := ⟨144, [(.agg [li, li, .bool])], .one (.c .bool), fun x => impl_IsPlace.f x.1 x.2.1 x.2.2⟩
theorem impl_IsPlace.ok (k : Nat) : Refl.EntOK Tryz.prog (impl_IsPlace.e k) := Refl.ent_ok 1000000 k GC (fun k => [impl_within.e k]) (fun k => ⟨impl_within.ok k, trivial⟩) Tryz.func144 (by kernel_rfl) [] (ps := []) (by kernel_rfl) trivial (fun x => by kernel_rfl)

/-! ### impl_IsHand: function 106 -/

def impl_IsHand.f (k : Nat) (a0_0 : Int) (a0_1 : Int) (a0_2 : Int) (a0_3 : Int) (a0_4 : Int) (a0_5 : Bool) (a0_6 : Int) (a0_7 : Int) (a0_8 : Int) (a0_9 : Int) (a0_10 : Bool) (a0_11 : ByteArray) (a0_12 : Int) : Option (Bool) := (impl_IsShape.f a0_0 a0_1 a0_2 a0_3 a0_4 a0_5).bind fun t344 => (if t344 = true then ((impl_IsOrient.f a0_6 a0_7).bind fun t345 => (if t345 = true then ((impl_IsPlace.f a0_8 a0_9 a0_10).bind fun t346 => (if t346 = true then ((impl_IsMove.f k a0_11 a0_12).bind fun t347 => (some t347)) else (some false))) else (some false))) else (some false))

theorem impl_IsHand.mono : ∀ a0 a1 a2 a3 a4 a5 a6 a7 a8 a9 a10 a11 a12 k, LeO (impl_IsHand.f k a0 a1 a2 a3 a4 a5 a6 a7 a8 a9 a10 a11 a12) (impl_IsHand.f (k + 1) a0 a1 a2 a3 a4 a5 a6 a7 a8 a9 a10 a11 a12) := by
  intro a0 a1 a2 a3 a4 a5 a6 a7 a8 a9 a10 a11 a12 k
  unfold impl_IsHand.f
  repeat' first
      | (with_reducible exact impl_IsMove.mono _ _ _)
      | (with_reducible exact LeO.refl _)
      | (with_reducible exact LeO.none _)
      | (with_reducible refine LeO.ite ?_ ?_)
      | (with_reducible refine LeO.bind ?_ (fun _ => ?_))
      | exact impl_IsMove.mono _ _ _
      | exact LeO.none _
      | refine LeO.ite ?_ ?_
      | refine LeO.bind ?_ (fun _ => ?_)

def impl_IsHand.e (k : Nat) : Refl.Ent G := ⟨106, [(.agg gL0)], .one (.c .bool), fun x => impl_IsHand.f k x.1 x.2.1 x.2.2.1 x.2.2.2.1 x.2.2.2.2.1 x.2.2.2.2.2.1 x.2.2.2.2.2.2.1 x.2.2.2.2.2.2.2.1 x.2.2.2.2.2.2.2.2.1 x.2.2.2.2.2.2.2.2.2.1 x.2.2.2.2.2.2.2.2.2.2.1 x.2.2.2.2.2.2.2.2.2.2.2.1 x.2.2.2.2.2.2.2.2.2.2.2.2⟩
theorem impl_IsHand.ok (k : Nat) : Refl.EntOK Tryz.prog (impl_IsHand.e k) := Refl.ent_ok 1000000 k GC (fun k => [impl_IsShape.e k, impl_IsOrient.e k, impl_IsPlace.e k, impl_IsMove.e k]) (fun k => ⟨impl_IsShape.ok k, impl_IsOrient.ok k, impl_IsPlace.ok k, impl_IsMove.ok k, trivial⟩) Tryz.func106 (by kernel_rfl) [] (ps := []) (by kernel_rfl) trivial (fun x => by kernel_rfl)

/-! ### strings_Repeat: function 74 -/

def strings_Repeat.f (a0 : ByteArray) (a1 : Int) : Option ByteArray :=
  if 0 ≤ a1 ∧ a1 ≤ 9223372036854775807 ∧ a0.size * a1.toNat ≤ 140737488355328 then some ⟨(Lib.repeatL a0.data.toList a1.toNat).toArray⟩ else none
theorem strings_Repeat.calls (a0 : ByteArray) (a1 : Int) (r : ByteArray) (w : World) (h : strings_Repeat.f a0 a1 = some r) :
    Calls Tryz.prog 74 #[.string a0, .int .i64 a1] w fun e w' => e = .returned (.string r) ∧ Below w.heap.size w w' := by
  unfold strings_Repeat.f at h
  split at h
  · rename_i hc
    obtain rfl := Option.some.inj h
    obtain ⟨c, rfl⟩ := Int.eq_ofNat_of_zero_le hc.1
    exact Tryz.strings_Repeat a0 c w (by omega) (by simpa using hc.2.2)
  · exact absurd h (by simp)

def strings_Repeat.e (k : Nat) : Refl.Ent G := ⟨74, [(.c .str), (.c li)], .one (.c .str), fun x => strings_Repeat.f x.1 x.2⟩
theorem strings_Repeat.ok (k : Nat) : Refl.EntOK Tryz.prog (strings_Repeat.e k) := Refl.entOK_hand Tryz.func74 (by kernel_rfl) (fun x => by kernel_rfl) (fun y => ⟨by kernel_rfl, by kernel_rfl, by kernel_rfl, by kernel_rfl⟩) (fun x y h w => (strings_Repeat.calls x.1 x.2 y w h).mono fun e w' hh => ⟨hh.1, hh.2⟩)

/-! ### impl_Move_all: function 40 -/

def impl_Move_all.f (a0_0 : ByteArray) (a0_1 : Int) : Option (ByteArray) := (strings_Repeat.f a0_0 a0_1).bind fun t349 => (some t349)

def impl_Move_all.e (k : Nat) : Refl.Ent G := ⟨40, [(.agg [.str, li])], .one (.c .str), fun x => impl_Move_all.f x.1 x.2⟩
theorem impl_Move_all.ok (k : Nat) : Refl.EntOK Tryz.prog (impl_Move_all.e k) := Refl.ent_ok 1000000 k GC (fun k => [strings_Repeat.e k]) (fun k => ⟨strings_Repeat.ok k, trivial⟩) Tryz.func40 (by kernel_rfl) [] (ps := []) (by kernel_rfl) trivial (fun x => by kernel_rfl)

/-! ### impl_Hand_moves: function 145 -/

def impl_Hand_moves.f (a0_0 : Int) (a0_1 : Int) (a0_2 : Int) (a0_3 : Int) (a0_4 : Int) (a0_5 : Bool) (a0_6 : Int) (a0_7 : Int) (a0_8 : Int) (a0_9 : Int) (a0_10 : Bool) (a0_11 : ByteArray) (a0_12 : Int) : Option (Bool) := some (a0_11.toList != ([] : List UInt8))

def impl_Hand_moves.e (k : Nat) : Refl.Ent G := ⟨145, [(.agg gL0)], .one (.c .bool), fun x => impl_Hand_moves.f x.1 x.2.1 x.2.2.1 x.2.2.2.1 x.2.2.2.2.1 x.2.2.2.2.2.1 x.2.2.2.2.2.2.1 x.2.2.2.2.2.2.2.1 x.2.2.2.2.2.2.2.2.1 x.2.2.2.2.2.2.2.2.2.1 x.2.2.2.2.2.2.2.2.2.2.1 x.2.2.2.2.2.2.2.2.2.2.2.1 x.2.2.2.2.2.2.2.2.2.2.2.2⟩
theorem impl_Hand_moves.ok (k : Nat) : Refl.EntOK Tryz.prog (impl_Hand_moves.e k) := Refl.ent_ok 1000000 k GC (fun k => []) (fun k => trivial) Tryz.func145 (by kernel_rfl) [] (ps := []) (by kernel_rfl) trivial (fun x => by kernel_rfl)

/-! ### impl_Shape_186: function 186 -/

def impl_Shape_186.l0 : Nat → List (S63) → Int → Int → Int → Int → Int → Int → Int → Bool → Option (Int)
  | 0, _, _, _, _, _, _, _, _, _ => none
  | k + 1, x0, x7, x8, x352000, x352001, x352002, x352003, x352004, x352005 => if x8 < x7 then (if 0 ≤ x8 then (if x8 < (x0.length : Int) then (if (x352000 == ((rd_T63 x0 x8).f0) && (x352001 == ((rd_T63 x0 x8).f1) && (x352002 == ((rd_T63 x0 x8).f2) && (x352003 == ((rd_T63 x0 x8).f3) && (x352004 == ((rd_T63 x0 x8).f4) && (x352005 == ((rd_T63 x0 x8).f5))))))) = true then (some x8) else (impl_Shape_186.l0 k x0 x7 (wrap64 (x8 + 1)) x352000 x352001 x352002 x352003 x352004 x352005)) else (none)) else (none)) else (some (-1))

def impl_Shape_186.f (k : Nat) (l0 : List (S63)) (a1_0 : Int) (a1_1 : Int) (a1_2 : Int) (a1_3 : Int) (a1_4 : Int) (a1_5 : Bool) : Option (Int) := impl_Shape_186.l0 k l0 (l0.length : Int) 0 a1_0 a1_1 a1_2 a1_3 a1_4 a1_5

theorem impl_Shape_186.mono_l : ∀ k, (∀ y0 y1 y2 y3 y4 y5 y6 y7 y8, LeO (impl_Shape_186.l0 k y0 y1 y2 y3 y4 y5 y6 y7 y8) (impl_Shape_186.l0 (k + 1) y0 y1 y2 y3 y4 y5 y6 y7 y8))
  | 0 => fun _ _ _ _ _ _ _ _ _ r h => by simp [impl_Shape_186.l0] at h
  | k + 1 => by
    have ih0 := impl_Shape_186.mono_l k
    · intro y0 y1 y2 y3 y4 y5 y6 y7 y8
      unfold impl_Shape_186.l0
      repeat' first
      | (with_reducible exact ih0 _ _ _ _ _ _ _ _ _)
      | (with_reducible exact LeO.refl _)
      | (with_reducible exact LeO.none _)
      | (with_reducible refine LeO.ite ?_ ?_)
      | (with_reducible refine LeO.bind ?_ (fun _ => ?_))
      | exact ih0 _ _ _ _ _ _ _ _ _
      | exact LeO.none _
      | refine LeO.ite ?_ ?_
      | refine LeO.bind ?_ (fun _ => ?_)

theorem impl_Shape_186.mono : ∀ a0 a1 a2 a3 a4 a5 a6 k, LeO (impl_Shape_186.f k a0 a1 a2 a3 a4 a5 a6) (impl_Shape_186.f (k + 1) a0 a1 a2 a3 a4 a5 a6) := by
  intro a0 a1 a2 a3 a4 a5 a6 k
  have ih0 := impl_Shape_186.mono_l k
  unfold impl_Shape_186.f
  repeat' first
      | (with_reducible exact ih0 _ _ _ _ _ _ _ _ _)
      | (with_reducible exact LeO.refl _)
      | (with_reducible exact LeO.none _)
      | (with_reducible refine LeO.ite ?_ ?_)
      | (with_reducible refine LeO.bind ?_ (fun _ => ?_))
      | exact ih0 _ _ _ _ _ _ _ _ _
      | exact LeO.none _
      | refine LeO.ite ?_ ?_
      | refine LeO.bind ?_ (fun _ => ?_)

def impl_Shape_186.e (k : Nat) : Refl.Ent G := ⟨186, [(.c (.row 63 false)), (.agg [li, li, li, li, li, .bool])], .one (.c li), fun x => impl_Shape_186.f k x.1 x.2.1 x.2.2.1 x.2.2.2.1 x.2.2.2.2.1 x.2.2.2.2.2.1 x.2.2.2.2.2.2⟩
def impl_Shape_186.pl0 : Refl.Pn G (Refl.PT G (impl_Shape_186.e 0).ol) := ⟨true, 0, ⟨[(0, .v (.c (.row 63 false))), (7, .v (.c li)), (8, .v (.c li)), (3, .box 3 0), (4, .k (Value.int IntKind.i64 0))], [(3, 63, gL7)]⟩, fun k x => impl_Shape_186.l0 k x.1 x.2.1 x.2.2.1 x.2.2.2.1 x.2.2.2.2.1 x.2.2.2.2.2.1 x.2.2.2.2.2.2.1 x.2.2.2.2.2.2.2.1 x.2.2.2.2.2.2.2.2⟩
theorem impl_Shape_186.ok (k : Nat) : Refl.EntOK Tryz.prog (impl_Shape_186.e k) := Refl.ent_ok 1000000 k GC (fun k => []) (fun k => trivial) Tryz.func186 (by kernel_rfl) [impl_Shape_186.pl0] (ps := [impl_Shape_186.pl0]) (by kernel_rfl) ⟨⟨fun x => by kernel_rfl, fun k x => by kernel_rfl⟩, trivial⟩ (fun x => by kernel_rfl)

/-! ### impl_Shape_146: function 146 -/

def impl_Shape_146.f (k : Nat) (l0 : List (S63)) (a1_0 : Int) (a1_1 : Int) (a1_2 : Int) (a1_3 : Int) (a1_4 : Int) (a1_5 : Bool) : Option (Bool) := (impl_Shape_186.f k l0 a1_0 a1_1 a1_2 a1_3 a1_4 a1_5).bind fun t354 => (some (decide (t354 ≥ 0)))

theorem impl_Shape_146.mono : ∀ a0 a1 a2 a3 a4 a5 a6 k, LeO (impl_Shape_146.f k a0 a1 a2 a3 a4 a5 a6) (impl_Shape_146.f (k + 1) a0 a1 a2 a3 a4 a5 a6) := by
  intro a0 a1 a2 a3 a4 a5 a6 k
  unfold impl_Shape_146.f
  repeat' first
      | (with_reducible exact impl_Shape_186.mono _ _ _ _ _ _ _ _)
      | (with_reducible exact LeO.refl _)
      | (with_reducible exact LeO.none _)
      | (with_reducible refine LeO.ite ?_ ?_)
      | (with_reducible refine LeO.bind ?_ (fun _ => ?_))
      | exact impl_Shape_186.mono _ _ _ _ _ _ _ _
      | exact LeO.none _
      | refine LeO.ite ?_ ?_
      | refine LeO.bind ?_ (fun _ => ?_)

def impl_Shape_146.e (k : Nat) : Refl.Ent G := ⟨146, [(.c (.row 63 false)), (.agg [li, li, li, li, li, .bool])], .one (.c .bool), fun x => impl_Shape_146.f k x.1 x.2.1 x.2.2.1 x.2.2.2.1 x.2.2.2.2.1 x.2.2.2.2.2.1 x.2.2.2.2.2.2⟩
theorem impl_Shape_146.ok (k : Nat) : Refl.EntOK Tryz.prog (impl_Shape_146.e k) := Refl.ent_ok 1000000 k GC (fun k => [impl_Shape_186.e k]) (fun k => ⟨impl_Shape_186.ok k, trivial⟩) Tryz.func146 (by kernel_rfl) [] (ps := []) (by kernel_rfl) trivial (fun x => by kernel_rfl)

/-! ### strconv_Itoa: function 76 -/

/-- The digits, and the pairs of digits, as the library lays them. -/
def itA : ByteArray := ⟨#[48, 49, 50, 51, 52, 53, 54, 55, 56, 57, 97, 98, 99, 100, 101, 102, 103, 104, 105, 106, 107, 108, 109, 110, 111, 112, 113, 114, 115, 116, 117, 118, 119, 120, 121, 122]⟩
def itB : ByteArray := ⟨#[48, 48, 48, 49, 48, 50, 48, 51, 48, 52, 48, 53, 48, 54, 48, 55, 48, 56, 48, 57, 49, 48, 49, 49, 49, 50, 49, 51, 49, 52, 49, 53, 49, 54, 49, 55, 49, 56, 49, 57, 50, 48, 50, 49, 50, 50, 50, 51, 50, 52, 50, 53, 50, 54, 50, 55, 50, 56, 50, 57, 51, 48, 51, 49, 51, 50, 51, 51, 51, 52, 51, 53, 51, 54, 51, 55, 51, 56, 51, 57, 52, 48, 52, 49, 52, 50, 52, 51, 52, 52, 52, 53, 52, 54, 52, 55, 52, 56, 52, 57, 53, 48, 53, 49, 53, 50, 53, 51, 53, 52, 53, 53, 53, 54, 53, 55, 53, 56, 53, 57, 54, 48, 54, 49, 54, 50, 54, 51, 54, 52, 54, 53, 54, 54, 54, 55, 54, 56, 54, 57, 55, 48, 55, 49, 55, 50, 55, 51, 55, 52, 55, 53, 55, 54, 55, 55, 55, 56, 55, 57, 56, 48, 56, 49, 56, 50, 56, 51, 56, 52, 56, 53, 56, 54, 56, 55, 56, 56, 56, 57, 57, 48, 57, 49, 57, 50, 57, 51, 57, 52, 57, 53, 57, 54, 57, 55, 57, 56, 57, 57]⟩
/-- The text of a number below 100. -/
def itT (n : Int) : ByteArray := if n < 10 then itA.extract n.toNat (n + 1).toNat else itB.extract (n * 2).toNat (n * 2 + 2).toNat
set_option maxHeartbeats 4000000 in
set_option maxRecDepth 100000 in
theorem itSmall (n : Int) (w : World) (h0 : 0 ≤ n) (h1 : n < 100) : Calls Tryz.prog 192 #[.int .i64 n] w fun e w' => e = .returned (.string (itT n)) ∧ Drawn0 w w' := by
  have e1 : IntKind.i64.wrap (n + 1) = n + 1 := by simp [IntKind.wrap, IntKind.bits, IntKind.signed]; omega
  have e2 : IntKind.i64.wrap (n * 2) = n * 2 := by simp [IntKind.wrap, IntKind.bits, IntKind.signed]; omega
  have e3 : IntKind.i64.wrap (n * 2 + 2) = n * 2 + 2 := by simp [IntKind.wrap, IntKind.bits, IntKind.signed]; omega
  by_cases h : n < 10
  · have c0 : decide (n < 10) = true := decide_eq_true h
    have c1 : itT n = itA.extract n.toNat (n + 1).toNat := if_pos h
    have b0 : (0 ≤ n) = True := eq_true h0
    have b1 : (n ≤ n + 1) = True := eq_true (by omega)
    have b2 : (n + 1 ≤ 36) = True := eq_true (by omega)
    have b3 : decide (0 ≤ n) = true := decide_eq_true h0
    have b4 : decide (n ≤ n + 1) = true := decide_eq_true (by omega)
    have b5 : decide (n + 1 ≤ 36) = true := decide_eq_true (by omega)
    rw [c1]
    clear h c1 h0 h1
    go_enter Tryz.func192, Tryz.ntmps192
    go_wp2
    go_ret
    exact ⟨by first | rfl | (simp [itA]; done), by repeat (first | exact Drawn0.refl _ | apply Drawn0.step)⟩
  · have c0 : decide (n < 10) = false := decide_eq_false h
    have c1 : itT n = itB.extract (n * 2).toNat (n * 2 + 2).toNat := if_neg h
    have b0 : (0 ≤ n * 2) = True := eq_true (by omega)
    have b1 : (n * 2 ≤ n * 2 + 2) = True := eq_true (by omega)
    have b2 : (n * 2 + 2 ≤ 200) = True := eq_true (by omega)
    have b3 : decide (0 ≤ n * 2) = true := decide_eq_true (by omega)
    have b4 : decide (n * 2 ≤ n * 2 + 2) = true := decide_eq_true (by omega)
    have b5 : decide (n * 2 + 2 ≤ 200) = true := decide_eq_true (by omega)
    rw [c1]
    clear h c1 h0 h1
    go_enter Tryz.func192, Tryz.ntmps192
    go_wp2
    go_ret
    exact ⟨by first | rfl | (simp [itB]; done), by repeat (first | exact Drawn0.refl _ | apply Drawn0.step)⟩
set_option maxHeartbeats 4000000 in
set_option maxRecDepth 100000 in
theorem itFormat (n : Int) (w : World) (h0 : 0 ≤ n) (h1 : n < 100) : Calls Tryz.prog 161 #[.int .i64 n, .int .i64 10] w fun e w' => e = .returned (.string (itT n)) ∧ Drawn0 w w' := by
  have HS := Aside0.mk (fun W => itSmall n W h0 h1)
  have e1 : IntKind.i64.wrap n = n := by simp [IntKind.wrap, IntKind.bits, IntKind.signed]; omega
  have c0 : decide (0 ≤ n) = true := decide_eq_true h0
  have c1 : decide (n < 100) = true := decide_eq_true h1
  clear h0 h1
  go_enter Tryz.func161, Tryz.ntmps161
  go_wp2_with (go_at_call 192; refine (HS.out _).mono ?_; rintro e wq ⟨rfl, ⟨nd, rfl⟩⟩)
  go_ret
  exact ⟨by first | rfl | (simp; done), by repeat (first | exact Drawn0.refl _ | apply Drawn0.step)⟩
set_option maxHeartbeats 4000000 in
set_option maxRecDepth 100000 in
theorem itIn (n : Int) (w : World) (h0 : 0 ≤ n) (h1 : n < 100) : Calls Tryz.prog 118 #[.int .i64 n] w fun e w' => e = .returned (.string (itT n)) ∧ Drawn0 w w' := by
  have HS := Aside0.mk (fun W => itFormat n W h0 h1)
  have e1 : IntKind.i64.wrap n = n := by simp [IntKind.wrap, IntKind.bits, IntKind.signed]; omega
  clear h0 h1
  go_enter Tryz.func118, Tryz.ntmps118
  go_wp2_with (go_at_call 161; refine (HS.out _).mono ?_; rintro e wq ⟨rfl, ⟨nd, rfl⟩⟩)
  go_ret
  exact ⟨by first | rfl | (simp; done), by repeat (first | exact Drawn0.refl _ | apply Drawn0.step)⟩
def strconv_Itoa.f (a0 : Int) : Option ByteArray := if 0 ≤ a0 ∧ a0 < 100 then some (itT a0) else none
set_option maxHeartbeats 4000000 in
set_option maxRecDepth 100000 in
theorem strconv_Itoa.calls (a0 : Int) (r : ByteArray) (w : World) (h : strconv_Itoa.f a0 = some r) : Calls Tryz.prog 76 #[.int .i64 a0] w fun e w' => e = .returned (.string r) ∧ Drawn0 w w' := by
  unfold strconv_Itoa.f at h
  by_cases hn : 0 ≤ a0 ∧ a0 < 100
  · rw [if_pos hn] at h
    obtain rfl := Option.some.inj h
    have HS := Aside0.mk (fun W => itIn a0 W hn.1 hn.2)
    clear h hn
    go_enter Tryz.func76, Tryz.ntmps76
    go_wp2_with (go_at_call 118; refine (HS.out _).mono ?_; rintro e wq ⟨rfl, ⟨nd, rfl⟩⟩)
    go_ret
    exact ⟨by first | rfl | (simp; done), by repeat (first | exact Drawn0.refl _ | apply Drawn0.step)⟩
  · rw [if_neg hn] at h; exact absurd h (by simp)

def strconv_Itoa.e (k : Nat) : Refl.Ent G := ⟨76, [(.c li)], .one (.c .str), fun x => strconv_Itoa.f x⟩
theorem strconv_Itoa.ok (k : Nat) : Refl.EntOK Tryz.prog (strconv_Itoa.e k) := Refl.entOK_hand Tryz.func76 (by kernel_rfl) (fun x => by kernel_rfl) (fun y => ⟨by kernel_rfl, by kernel_rfl, by kernel_rfl, by kernel_rfl⟩) (fun x y h w => (strconv_Itoa.calls x y w h).mono fun e w' hh => ⟨hh.1, hh.2.below⟩)

/-! ### impl_Shape_text: function 97 -/

def impl_Shape_text.l0 : Nat → ByteArray → List Int → Int → Int → Int → Int → Int → Int → Int → Bool → Option (ByteArray)
  | 0, _, _, _, _, _, _, _, _, _, _ => none
  | k + 1, x3, x10, x11, x12, x356000, x356001, x356002, x356003, x356004, x356005 => if x12 < x11 then (if 0 ≤ x12 then (if x12 < (x10.length : Int) then ((strconv_Itoa.f (rd x10 x12)).bind fun t361 => (if x3.size + t361.size ≤ 9223372036854775807 then (impl_Shape_text.l0 k (x3 ++ t361) x10 x11 (wrap64 (x12 + 1)) x356000 x356001 x356002 x356003 x356004 x356005) else (none))) else (none)) else (none)) else (if x356005 = true then (if x3.size + 1 ≤ 9223372036854775807 then (some (x3 ++ (⟨#[115]⟩ : ByteArray))) else (none)) else (some x3))

def impl_Shape_text.f (k : Nat) (a0_0 : Int) (a0_1 : Int) (a0_2 : Int) (a0_3 : Int) (a0_4 : Int) (a0_5 : Bool) : Option (ByteArray) := (strconv_Itoa.f a0_0).bind fun t356 => ((impl_Shape_bends.f a0_0 a0_1 a0_2 a0_3 a0_4 a0_5).bind fun t357 => (impl_Shape_text.l0 k t356 t357 (t357.length : Int) 0 a0_0 a0_1 a0_2 a0_3 a0_4 a0_5))

theorem impl_Shape_text.mono_l : ∀ k, (∀ y0 y1 y2 y3 y4 y5 y6 y7 y8 y9, LeO (impl_Shape_text.l0 k y0 y1 y2 y3 y4 y5 y6 y7 y8 y9) (impl_Shape_text.l0 (k + 1) y0 y1 y2 y3 y4 y5 y6 y7 y8 y9))
  | 0 => fun _ _ _ _ _ _ _ _ _ _ r h => by simp [impl_Shape_text.l0] at h
  | k + 1 => by
    have ih0 := impl_Shape_text.mono_l k
    · intro y0 y1 y2 y3 y4 y5 y6 y7 y8 y9
      unfold impl_Shape_text.l0
      repeat' first
      | (with_reducible exact ih0 _ _ _ _ _ _ _ _ _ _)
      | (with_reducible exact LeO.refl _)
      | (with_reducible exact LeO.none _)
      | (with_reducible refine LeO.ite ?_ ?_)
      | (with_reducible refine LeO.bind ?_ (fun _ => ?_))
      | exact ih0 _ _ _ _ _ _ _ _ _ _
      | exact LeO.none _
      | refine LeO.ite ?_ ?_
      | refine LeO.bind ?_ (fun _ => ?_)

theorem impl_Shape_text.mono : ∀ a0 a1 a2 a3 a4 a5 k, LeO (impl_Shape_text.f k a0 a1 a2 a3 a4 a5) (impl_Shape_text.f (k + 1) a0 a1 a2 a3 a4 a5) := by
  intro a0 a1 a2 a3 a4 a5 k
  have ih0 := impl_Shape_text.mono_l k
  unfold impl_Shape_text.f
  repeat' first
      | (with_reducible exact ih0 _ _ _ _ _ _ _ _ _ _)
      | (with_reducible exact LeO.refl _)
      | (with_reducible exact LeO.none _)
      | (with_reducible refine LeO.ite ?_ ?_)
      | (with_reducible refine LeO.bind ?_ (fun _ => ?_))
      | exact ih0 _ _ _ _ _ _ _ _ _ _
      | exact LeO.none _
      | refine LeO.ite ?_ ?_
      | refine LeO.bind ?_ (fun _ => ?_)

def impl_Shape_text.e (k : Nat) : Refl.Ent G := ⟨97, [(.agg [li, li, li, li, li, .bool])], .one (.c .str), fun x => impl_Shape_text.f k x.1 x.2.1 x.2.2.1 x.2.2.2.1 x.2.2.2.2.1 x.2.2.2.2.2⟩
def impl_Shape_text.pl0 : Refl.Pn G (Refl.PT G (impl_Shape_text.e 0).ol) := ⟨true, 0, ⟨[(3, .v (.c .str)), (10, .v (.c (.row 3 false))), (11, .v (.c li)), (12, .v (.c li)), (1, .box 1 0)], [(1, 63, gL7)]⟩, fun k x => impl_Shape_text.l0 k x.1 x.2.1 x.2.2.1 x.2.2.2.1 x.2.2.2.2.1 x.2.2.2.2.2.1 x.2.2.2.2.2.2.1 x.2.2.2.2.2.2.2.1 x.2.2.2.2.2.2.2.2.1 x.2.2.2.2.2.2.2.2.2⟩
theorem impl_Shape_text.ok (k : Nat) : Refl.EntOK Tryz.prog (impl_Shape_text.e k) := Refl.ent_ok 1000000 k GC (fun k => [strconv_Itoa.e k, impl_Shape_bends.e k]) (fun k => ⟨strconv_Itoa.ok k, impl_Shape_bends.ok k, trivial⟩) Tryz.func97 (by kernel_rfl) [impl_Shape_text.pl0] (ps := [impl_Shape_text.pl0]) (by kernel_rfl) ⟨⟨fun x => by kernel_rfl, fun k x => by kernel_rfl⟩, trivial⟩ (fun x => by kernel_rfl)

/-! ### impl_Shape_with: function 130 -/

def impl_Shape_with.f (a0_0 : Int) (a0_1 : Int) (a0_2 : Int) (a0_3 : Int) (a0_4 : Int) (a0_5 : Bool) (a1 : Int) (a2 : Int) : Option (Int × Int × Int × Int × Int × Bool) := if a1 = 0 then (if a0_5 = true then ((impl_Shape_maySpread.f a2 a0_1 a0_2 a0_3 a0_4 a0_5).bind fun t364 => (some (a2, a0_1, a0_2, a0_3, a0_4, t364))) else (some (a2, a0_1, a0_2, a0_3, a0_4, false))) else (if a1 = 1 then (if a0_5 = true then ((impl_Shape_maySpread.f a0_0 a2 a0_2 a0_3 a0_4 a0_5).bind fun t365 => (some (a0_0, a2, a0_2, a0_3, a0_4, t365))) else (some (a0_0, a2, a0_2, a0_3, a0_4, false))) else (if a1 = 2 then (if a0_5 = true then ((impl_Shape_maySpread.f a0_0 a0_1 a2 a0_3 a0_4 a0_5).bind fun t366 => (some (a0_0, a0_1, a2, a0_3, a0_4, t366))) else (some (a0_0, a0_1, a2, a0_3, a0_4, false))) else (if a1 = 3 then (if a0_5 = true then ((impl_Shape_maySpread.f a0_0 a0_1 a0_2 a2 a0_4 a0_5).bind fun t367 => (some (a0_0, a0_1, a0_2, a2, a0_4, t367))) else (some (a0_0, a0_1, a0_2, a2, a0_4, false))) else (if a0_5 = true then ((impl_Shape_maySpread.f a0_0 a0_1 a0_2 a0_3 a2 a0_5).bind fun t368 => (some (a0_0, a0_1, a0_2, a0_3, a2, t368))) else (some (a0_0, a0_1, a0_2, a0_3, a2, false))))))

def impl_Shape_with.e (k : Nat) : Refl.Ent G := ⟨130, [(.agg [li, li, li, li, li, .bool]), (.c li), (.c li)], .one (.agg [li, li, li, li, li, .bool]), fun x => impl_Shape_with.f x.1 x.2.1 x.2.2.1 x.2.2.2.1 x.2.2.2.2.1 x.2.2.2.2.2.1 x.2.2.2.2.2.2.1 x.2.2.2.2.2.2.2⟩
theorem impl_Shape_with.ok (k : Nat) : Refl.EntOK Tryz.prog (impl_Shape_with.e k) := Refl.ent_ok 1000000 k GC (fun k => [impl_Shape_maySpread.e k]) (fun k => ⟨impl_Shape_maySpread.ok k, trivial⟩) Tryz.func130 (by kernel_rfl) [] (ps := []) (by kernel_rfl) trivial (fun x => by kernel_rfl)

/-! ### impl_ParseShape: function 90 -/

def impl_ParseShape.l0 : Nat → ByteArray → Int → Int → Int → Int → Int → Int → Bool → Option (Int × Int × Int × Int × Int × Bool × Bool)
  | 0, _, _, _, _, _, _, _, _ => none
  | k + 1, x0, x11, x372000, x372001, x372002, x372003, x372004, x372005 => if x11 < 5 then (if 0 ≤ x11 then (if x11 < (x0.size : Int) then ((impl_Shape_with.f x372000 x372001 x372002 x372003 x372004 x372005 x11 (wrap64 ((wrap64 (bt x0 x11)) - 48))).bind fun bt372 => (impl_ParseShape.l0 k x0 (wrap64 (x11 + 1)) bt372.1 bt372.2.1 bt372.2.2.1 bt372.2.2.2.1 bt372.2.2.2.2.1 bt372.2.2.2.2.2)) else (none)) else (none)) else ((impl_IsShape.f x372000 x372001 x372002 x372003 x372004 ((x0.size : Int) == 6)).bind fun t378 => (if t378 = true then ((impl_Shape_text.f k x372000 x372001 x372002 x372003 x372004 ((x0.size : Int) == 6)).bind fun t379 => (if t379.toList = x0.toList then (some (x372000, x372001, x372002, x372003, x372004, ((x0.size : Int) == 6), true)) else (some (0, 0, 0, 0, 0, false, false)))) else (some (0, 0, 0, 0, 0, false, false))))

def impl_ParseShape.f (k : Nat) (a0 : ByteArray) : Option (Int × Int × Int × Int × Int × Bool × Bool) := (impl_within.f (a0.size : Int) 5 6).bind fun t370 => (if t370 = true then (impl_ParseShape.l0 k a0 0 0 0 0 0 0 false) else (some (0, 0, 0, 0, 0, false, false)))

theorem impl_ParseShape.mono_l : ∀ k, (∀ y0 y1 y2 y3 y4 y5 y6 y7, LeO (impl_ParseShape.l0 k y0 y1 y2 y3 y4 y5 y6 y7) (impl_ParseShape.l0 (k + 1) y0 y1 y2 y3 y4 y5 y6 y7))
  | 0 => fun _ _ _ _ _ _ _ _ r h => by simp [impl_ParseShape.l0] at h
  | k + 1 => by
    have ih0 := impl_ParseShape.mono_l k
    · intro y0 y1 y2 y3 y4 y5 y6 y7
      unfold impl_ParseShape.l0
      repeat' first
      | (with_reducible exact ih0 _ _ _ _ _ _ _ _)
      | (with_reducible exact impl_Shape_text.mono _ _ _ _ _ _ _)
      | (with_reducible exact LeO.refl _)
      | (with_reducible exact LeO.none _)
      | (with_reducible refine LeO.ite ?_ ?_)
      | (with_reducible refine LeO.bind ?_ (fun _ => ?_))
      | exact ih0 _ _ _ _ _ _ _ _
      | exact impl_Shape_text.mono _ _ _ _ _ _ _
      | exact LeO.none _
      | refine LeO.ite ?_ ?_
      | refine LeO.bind ?_ (fun _ => ?_)

theorem impl_ParseShape.mono : ∀ a0 k, LeO (impl_ParseShape.f k a0) (impl_ParseShape.f (k + 1) a0) := by
  intro a0 k
  have ih0 := impl_ParseShape.mono_l k
  unfold impl_ParseShape.f
  repeat' first
      | (with_reducible exact ih0 _ _ _ _ _ _ _ _)
      | (with_reducible exact impl_Shape_text.mono _ _ _ _ _ _ _)
      | (with_reducible exact LeO.refl _)
      | (with_reducible exact LeO.none _)
      | (with_reducible refine LeO.ite ?_ ?_)
      | (with_reducible refine LeO.bind ?_ (fun _ => ?_))
      | exact ih0 _ _ _ _ _ _ _ _
      | exact impl_Shape_text.mono _ _ _ _ _ _ _
      | exact LeO.none _
      | refine LeO.ite ?_ ?_
      | refine LeO.bind ?_ (fun _ => ?_)

def impl_ParseShape.e (k : Nat) : Refl.Ent G := ⟨90, [(.c .str)], .tup [(.agg [li, li, li, li, li, .bool]), (.c .bool)], fun x => impl_ParseShape.f k x⟩
def impl_ParseShape.pl0 : Refl.Pn G (Refl.PT G (impl_ParseShape.e 0).ol) := ⟨true, 0, ⟨[(0, .v (.c .str)), (11, .v (.c li)), (4, .box 4 0), (2, .box 2 0), (3, .k (Value.bool false))], [(4, 63, gL7), (2, 63, gL3)]⟩, fun k x => impl_ParseShape.l0 k x.1 x.2.1 x.2.2.1 x.2.2.2.1 x.2.2.2.2.1 x.2.2.2.2.2.1 x.2.2.2.2.2.2.1 x.2.2.2.2.2.2.2⟩
theorem impl_ParseShape.ok (k : Nat) : Refl.EntOK Tryz.prog (impl_ParseShape.e k) := Refl.ent_ok 1000000 k GC (fun k => [impl_within.e k, impl_Shape_with.e k, impl_IsShape.e k, impl_Shape_text.e k]) (fun k => ⟨impl_within.ok k, impl_Shape_with.ok k, impl_IsShape.ok k, impl_Shape_text.ok k, trivial⟩) Tryz.func90 (by kernel_rfl) [impl_ParseShape.pl0] (ps := [impl_ParseShape.pl0]) (by kernel_rfl) ⟨⟨fun x => by kernel_rfl, fun k x => by kernel_rfl⟩, trivial⟩ (fun x => by kernel_rfl)

/-! ### impl_PlainShapes: function 147 -/

def impl_PlainShapes.l0 : Nat → List (S63) → List ByteArray → Int → Int → Option ((List (S63)))
  | 0, _, _, _, _ => none
  | k + 1, x1, x6, x7, x8 => if x8 < x7 then (if 0 ≤ x8 then (if x8 < (x6.length : Int) then ((impl_ParseShape.f k (rdOf ByteArray.empty x6 x8)).bind fun bt384 => (if x1.length < 2932031007402 then (impl_PlainShapes.l0 k (x1 ++ [(⟨bt384.1, bt384.2.1, bt384.2.2.1, bt384.2.2.2.1, bt384.2.2.2.2.1, bt384.2.2.2.2.2.1⟩ : S63)]) x6 x7 (wrap64 (x8 + 1))) else (none))) else (none)) else (none)) else (some x1)

def impl_PlainShapes.f (k : Nat)  : Option ((List (S63))) := (some (([(⟨#[48, 48, 48, 48, 48]⟩ : ByteArray), (⟨#[48, 48, 48, 48, 48, 115]⟩ : ByteArray), (⟨#[50, 50, 50, 50, 50]⟩ : ByteArray), (⟨#[49, 48, 48, 48, 48]⟩ : ByteArray), (⟨#[49, 48, 50, 50, 50]⟩ : ByteArray), (⟨#[48, 48, 50, 50, 50]⟩ : ByteArray)] : List ByteArray) : List ByteArray)).bind fun y380 => (impl_PlainShapes.l0 k ([] : List (S63)) y380 (y380.length : Int) 0)

theorem impl_PlainShapes.mono_l : ∀ k, (∀ y0 y1 y2 y3, LeO (impl_PlainShapes.l0 k y0 y1 y2 y3) (impl_PlainShapes.l0 (k + 1) y0 y1 y2 y3))
  | 0 => fun _ _ _ _ r h => by simp [impl_PlainShapes.l0] at h
  | k + 1 => by
    have ih0 := impl_PlainShapes.mono_l k
    · intro y0 y1 y2 y3
      unfold impl_PlainShapes.l0
      repeat' first
      | (with_reducible exact ih0 _ _ _ _)
      | (with_reducible exact impl_ParseShape.mono _ _)
      | (with_reducible exact LeO.refl _)
      | (with_reducible exact LeO.none _)
      | (with_reducible refine LeO.ite ?_ ?_)
      | (with_reducible refine LeO.bind ?_ (fun _ => ?_))
      | exact ih0 _ _ _ _
      | exact impl_ParseShape.mono _ _
      | exact LeO.none _
      | refine LeO.ite ?_ ?_
      | refine LeO.bind ?_ (fun _ => ?_)

theorem impl_PlainShapes.mono : ∀ k, LeO (impl_PlainShapes.f k ) (impl_PlainShapes.f (k + 1) ) := by
  intro  k
  have ih0 := impl_PlainShapes.mono_l k
  unfold impl_PlainShapes.f
  repeat' first
      | (with_reducible exact ih0 _ _ _ _)
      | (with_reducible exact impl_ParseShape.mono _ _)
      | (with_reducible exact LeO.refl _)
      | (with_reducible exact LeO.none _)
      | (with_reducible refine LeO.ite ?_ ?_)
      | (with_reducible refine LeO.bind ?_ (fun _ => ?_))
      | exact ih0 _ _ _ _
      | exact impl_ParseShape.mono _ _
      | exact LeO.none _
      | refine LeO.ite ?_ ?_
      | refine LeO.bind ?_ (fun _ => ?_)

def impl_PlainShapes.e (k : Nat) : Refl.Ent G := ⟨147, [], .one (.c (.row 63 true)), fun _ => impl_PlainShapes.f k ⟩
def impl_PlainShapes.pl0 : Refl.Pn G (Refl.PT G (impl_PlainShapes.e 0).ol) := ⟨true, 0, ⟨[(1, .v (.c (.row 63 true))), (6, .v (.c (.row 9 false))), (7, .v (.c li)), (8, .v (.c li))], []⟩, fun k x => impl_PlainShapes.l0 k x.1 x.2.1 x.2.2.1 x.2.2.2⟩
theorem impl_PlainShapes.ok (k : Nat) : Refl.EntOK Tryz.prog (impl_PlainShapes.e k) := Refl.ent_ok 1000000 k GC (fun k => [impl_ParseShape.e k]) (fun k => ⟨impl_ParseShape.ok k, trivial⟩) Tryz.func147 (by kernel_rfl) [impl_PlainShapes.pl0] (ps := [impl_PlainShapes.pl0]) (by kernel_rfl) ⟨⟨fun x => by kernel_rfl, fun k x => by kernel_rfl⟩, trivial⟩ (fun x => by kernel_rfl)

/-! ### impl_Orient_mirrored: function 148 -/

def orSw (d : Int) : Int := if d = 2 then 3 else if d = 3 then 2 else d
def impl_Orient_mirrored.f (a0_0 a0_1 : Int) : Option (Int × Int) := some (orSw a0_0, orSw a0_1)
set_option maxHeartbeats 4000000 in
set_option maxRecDepth 100000 in
theorem orSw_calls (d : Int) (w : World) : Calls Tryz.prog 187 #[.int .i64 d] w fun e w' => e = .returned (.int .i64 (orSw d)) ∧ Drawn0 w w' := by
  have h : (d = 2) ∨ (d = 3) ∨ (¬ d = 2 ∧ ¬ d = 3) := by omega
  rcases h with rfl | rfl | ⟨h2, h3⟩
  · go_enter Tryz.func187, Tryz.ntmps187
    go_wp2
    go_ret
    exact ⟨rfl, by repeat (first | exact Drawn0.refl _ | apply Drawn0.step)⟩
  · go_enter Tryz.func187, Tryz.ntmps187
    go_wp2
    go_ret
    exact ⟨rfl, by repeat (first | exact Drawn0.refl _ | apply Drawn0.step)⟩
  · have e : orSw d = d := by unfold orSw; rw [if_neg h2, if_neg h3]
    rw [e]
    have c2 : (d == 2) = false := by simpa using h2
    have c3 : (d == 3) = false := by simpa using h3
    clear e h2 h3
    go_enter Tryz.func187, Tryz.ntmps187
    go_wp2
    go_ret
    exact ⟨rfl, by repeat (first | exact Drawn0.refl _ | apply Drawn0.step)⟩
set_option maxHeartbeats 4000000 in
set_option maxRecDepth 100000 in
theorem impl_Orient_mirrored.calls (a0_0 a0_1 r1 r2 : Int) (w : World) (h : impl_Orient_mirrored.f a0_0 a0_1 = some (r1, r2)) :
    Calls Tryz.prog 148 #[.agg #[.int .i64 a0_0, .int .i64 a0_1]] w fun e w' => e = .returned (.agg #[.int .i64 r1, .int .i64 r2]) ∧ Below w.heap.size w w' := by
  unfold impl_Orient_mirrored.f at h
  simp only [Option.some.injEq, Prod.mk.injEq] at h
  obtain ⟨rfl, rfl⟩ := h
  have HB := Aside0.mk (Below.refl w.heap.size w)
  have HC0 := Aside0.mk (fun W => orSw_calls a0_0 W)
  have HC1 := Aside0.mk (fun W => orSw_calls a0_1 W)
  generalize orSw a0_0 = s0 at HC0
  generalize orSw a0_1 = s1 at HC1
  go_enter Tryz.func148, Tryz.ntmps148
  go_wp2_with (first
    | ((with_reducible refine gate_dst (N := 1) rfl ?_); refine box_event ?hg (N := 1) ?hd (cs := #[.int .i64 a0_0, .int .i64 a0_1]) (t := 64) ?hr ?_; (case hd => rfl); (case hg => rfl); (case hr => first | (go_simp; done) | (go_simp; rfl)); intro g1 hg1 w1 hbox hb; have BK1 := Aside0.mk hbox; have HB1 := Aside0.mk hb; clear hbox hb hg1 HB)
    | ((with_reducible refine gate_dst (N := 2) rfl ?_); refine box_event ?hg (N := 2) ?hd (cs := #[.int .i64 0, .int .i64 0]) (t := 64) ?hr ?_; (case hd => rfl); (case hg => rfl); (case hr => first | (go_simp; done) | (go_simp; rfl)); intro g2 hg2 w2 hbox hb; have BK1r := Aside0.mk (blk_below BK1.out hb); have BK2 := Aside0.mk hbox; have GE2 := Aside0.mk (show w.heap.size ≤ g2 by rw [hg2]; exact below_size HB1.out); have HB2 := Aside0.mk (below_step HB1.out hb); clear hbox hb hg2 BK1 HB1))
  have d0 : w2.cell? ⟨g1, 0, none⟩ = some (.int .i64 a0_0) := (blk_cell BK1r.out 0).trans rfl
  have d1 : w2.cell? ⟨g1, 1, none⟩ = some (.int .i64 a0_1) := (blk_cell BK1r.out 1).trans rfl
  have d2 : w2.cell? ⟨g2, 0, none⟩ = some (.int .i64 0) := (blk_cell BK2.out 0).trans rfl
  have d3 : w2.cell? ⟨g2, 1, none⟩ = some (.int .i64 0) := (blk_cell BK2.out 1).trans rfl
  have z2 : w2.frozen? ⟨g2, 0, none⟩ = false := blk_frozen BK2.out 0
  have z3 : w2.frozen? ⟨g2, 1, none⟩ = false := blk_frozen BK2.out 1
  go_region_with (first
    | (go_at_call 187; (with_reducible refine (HC0.out _).mono ?_); rintro e wq ⟨rfl, ⟨nd, rfl⟩⟩)
    | (go_at_call 187; (with_reducible refine (HC1.out _).mono ?_); rintro e wq ⟨rfl, ⟨nd, rfl⟩⟩))
  all_goals
    go_wp2
    refine bodyPost_ret (results_cell_row rfl _ _ g2 64 #[.int .i64 s0, .int .i64 s1] (0, 0) _ rfl (by (with_reducible repeat (first | apply lN_ | apply lD_ | apply lA_)); refine blk_put (cs := #[.int .i64 s0, .int .i64 0]) ?_ 1 _ rfl; (with_reducible repeat (first | apply lN_ | apply lD_ | apply lA_)); refine blk_put (cs := #[.int .i64 0, .int .i64 0]) ?_ 0 _ rfl; (with_reducible repeat (first | apply lN_ | apply lD_ | apply lA_)); exact BK2.out) Tryz.underlying64 rfl (by kernel_rfl)) rfl ?_
    exact ⟨rfl, by repeat (first | exact HB2.out | apply pw_below_drewN | apply below_drew1 | refine bS_ ?_ GE2.out)⟩

def impl_Orient_mirrored.e (k : Nat) : Refl.Ent G := ⟨148, [(.agg [li, li])], .one (.agg [li, li]), fun x => impl_Orient_mirrored.f x.1 x.2⟩
theorem impl_Orient_mirrored.ok (k : Nat) : Refl.EntOK Tryz.prog (impl_Orient_mirrored.e k) := Refl.entOK_hand Tryz.func148 (by kernel_rfl) (fun x => by kernel_rfl) (fun y => ⟨by kernel_rfl, by kernel_rfl, by kernel_rfl, by kernel_rfl⟩) (fun x y h w => (impl_Orient_mirrored.calls x.1 x.2 y.1 y.2 w h).mono fun e w' hh => ⟨hh.1, hh.2⟩)

/-! ### impl_Move_mirrored: function 149 -/

def impl_Move_mirrored.f (a0_0 : ByteArray) (a0_1 : Int) : Option (ByteArray × Int) := if a0_0.size ≤ 1000000 then some (mirS a0_0, a0_1) else none
set_option maxHeartbeats 4000000 in
set_option maxRecDepth 100000 in
theorem impl_Move_mirrored.calls (a0_0 : ByteArray) (a0_1 : Int) (r1 : ByteArray) (r2 : Int) (w : World) (h : impl_Move_mirrored.f a0_0 a0_1 = some (r1, r2)) :
    Calls Tryz.prog 149 #[.agg #[.string a0_0, .int .i64 a0_1]] w fun e w' => e = .returned (.agg #[.string r1, .int .i64 r2]) ∧ Below w.heap.size w w' := by
  unfold impl_Move_mirrored.f at h
  by_cases hs : a0_0.size ≤ 1000000
  · rw [if_pos hs] at h
    simp only [Option.some.injEq, Prod.mk.injEq] at h
    obtain ⟨rfl, rfl⟩ := h
    have HS := Aside0.mk hs
    have HB := Aside0.mk (Below.refl w.heap.size w)
    clear hs
    go_enter Tryz.func149, Tryz.ntmps149
    go_wp2_with (first
      | ((with_reducible refine gate_dst (N := 1) rfl ?_); refine box_event ?hg (N := 1) ?hd (cs := #[.string a0_0, .int .i64 a0_1]) (t := 31) ?hr ?_; (case hd => rfl); (case hg => rfl); (case hr => first | (go_simp; done) | (go_simp; rfl)); intro g1 hg1 w1 hbox hb; have BK1 := Aside0.mk hbox; have HB1 := Aside0.mk hb; clear hbox hb hg1 HB)
      | ((with_reducible refine gate_dst (N := 2) rfl ?_); refine box_event ?hg (N := 2) ?hd (cs := #[.string ⟨#[]⟩, .int .i64 0]) (t := 31) ?hr ?_; (case hd => rfl); (case hg => rfl); (case hr => first | (go_simp; done) | (go_simp; rfl)); intro g2 hg2 w2 hbox hb; have BK1r := Aside0.mk (blk_below BK1.out hb); have BK2 := Aside0.mk hbox; have GE2 := Aside0.mk (show w.heap.size ≤ g2 by rw [hg2]; exact below_size HB1.out); have HB2 := Aside0.mk (below_step HB1.out hb); clear hbox hb hg2 BK1 HB1))
    have d0 : w2.cell? ⟨g1, 0, none⟩ = some (.string a0_0) := (blk_cell BK1r.out 0).trans rfl
    have d1 : w2.cell? ⟨g1, 1, none⟩ = some (.int .i64 a0_1) := (blk_cell BK1r.out 1).trans rfl
    have a0 : ∀ o, (w2.alloc o).cell? ⟨g1, 0, none⟩ = some (.string a0_0) := fun o => (blk_cell (blk_alloc BK1r.out o) 0).trans rfl
    have a1 : ∀ o, (w2.alloc o).cell? ⟨g1, 1, none⟩ = some (.int .i64 a0_1) := fun o => (blk_cell (blk_alloc BK1r.out o) 1).trans rfl
    have d2 : w2.cell? ⟨g2, 0, none⟩ = some (.string ⟨#[]⟩) := (blk_cell BK2.out 0).trans rfl
    have d3 : w2.cell? ⟨g2, 1, none⟩ = some (.int .i64 0) := (blk_cell BK2.out 1).trans rfl
    have z2 : w2.frozen? ⟨g2, 0, none⟩ = false := blk_frozen BK2.out 0
    have z3 : w2.frozen? ⟨g2, 1, none⟩ = false := blk_frozen BK2.out 1
    go_region_with (first
      | (go_at_call 188; refine (mr_new _ 9 _ (by first | exact blk_new _ _ | exact blk_drew (blk_new _ _) | exact blk_drewN (blk_new _ _) _)).mono ?_; rintro e w3 ⟨g, bk, cp, rfl, hrp, h4, hne, hge, hb3⟩; have HB3 : Aside0 (Below w2.heap.size w2 w3) := ⟨below_step (by repeat (first | exact Below.refl _ _ | apply below_drew1 | apply pw_below_drewN | apply below_alloc)) hb3⟩; have BK1s := blk_below BK1r.out HB3.out; have e0 : w3.cell? ⟨g1, 0, none⟩ = some (.string a0_0) := (blk_cell BK1s 0).trans rfl; have e1 : w3.cell? ⟨g1, 1, none⟩ = some (.int .i64 a0_1) := (blk_cell BK1s 1).trans rfl; have HG : Aside0 (w2.heap.size ≤ g) := ⟨Nat.le_trans (below_size (w := w2) (by repeat (first | exact Below.refl _ _ | apply below_drew1 | apply pw_below_drewN | apply below_alloc))) hge⟩; have HR := Aside0.mk hrp; have H4 := Aside0.mk h4; have HN := Aside0.mk hne; clear hrp h4 hne hge hb3 BK1s)
      | (go_at_call 189; refine (mr_replace g cp w2.heap.size bk a0_0 _ HR.out H4.out HN.out HG.out HS.out).mono ?_; rintro e w4 ⟨rfl, hb4⟩; have HB4 : Aside0 (Below w2.heap.size w2 w4) := ⟨Below.trans (by repeat (first | exact HB3.out | apply below_drew1 | apply pw_below_drewN)) hb4⟩; have BK1t := blk_below BK1r.out HB4.out; have BK2t := Aside0.mk (blk_below BK2.out HB4.out); have e2 : w4.cell? ⟨g1, 1, none⟩ = some (.int .i64 a0_1) := (blk_cell BK1t 1).trans rfl; have k0 : w4.cell? ⟨g2, 0, none⟩ = some (.string ⟨#[]⟩) := (blk_cell BK2t.out 0).trans rfl; have k1 : w4.cell? ⟨g2, 1, none⟩ = some (.int .i64 0) := (blk_cell BK2t.out 1).trans rfl; have q0 : w4.frozen? ⟨g2, 0, none⟩ = false := blk_frozen BK2t.out 0; have q1 : w4.frozen? ⟨g2, 1, none⟩ = false := blk_frozen BK2t.out 1; clear hb4 BK1t))
    all_goals
      go_wp2
      refine bodyPost_ret (results_cell_row rfl _ _ g2 31 #[.string (mirS a0_0), .int .i64 a0_1] (0, 0) _ rfl (by (with_reducible repeat (first | apply lN_ | apply lD_ | apply lA_)); refine blk_put (cs := #[.string (mirS a0_0), .int .i64 0]) ?_ 1 _ rfl; (with_reducible repeat (first | apply lN_ | apply lD_ | apply lA_)); refine blk_put (cs := #[.string ⟨#[]⟩, .int .i64 0]) ?_ 0 _ rfl; (with_reducible repeat (first | apply lN_ | apply lD_ | apply lA_)); exact BK2t.out) Tryz.underlying31 rfl (by kernel_rfl)) rfl ?_
      exact ⟨rfl, by repeat (first | exact (HB2.out.trans (HB4.out.mono (below_size HB2.out))) | apply pw_below_drewN | apply below_drew1 | refine bS_ ?_ GE2.out)⟩
  · rw [if_neg hs] at h; cases h

def impl_Move_mirrored.e (k : Nat) : Refl.Ent G := ⟨149, [(.agg [.str, li])], .one (.agg [.str, li]), fun x => impl_Move_mirrored.f x.1 x.2⟩
theorem impl_Move_mirrored.ok (k : Nat) : Refl.EntOK Tryz.prog (impl_Move_mirrored.e k) := Refl.entOK_hand Tryz.func149 (by kernel_rfl) (fun x => by kernel_rfl) (fun y => ⟨by kernel_rfl, by kernel_rfl, by kernel_rfl, by kernel_rfl⟩) (fun x y h w => (impl_Move_mirrored.calls x.1 x.2 y.1 y.2 w h).mono fun e w' hh => ⟨hh.1, hh.2⟩)

end Go.Proofs.YtaaldnaefdodkaaGreatDoor.PA
