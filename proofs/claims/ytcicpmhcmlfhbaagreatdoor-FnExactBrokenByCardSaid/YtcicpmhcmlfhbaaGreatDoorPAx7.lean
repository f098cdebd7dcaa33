-- Written by a program of this session (wip/tools/myprint.py). Not trusted: Lean checks it.
import Derived.Test.YtcicpmhcmlfhbaaGreatDoorCtx
import Derived.Test.YtcicpmhcmlfhbaaGreatDoorPAx4
import Derived.Test.YtcicpmhcmlfhbaaGreatDoorPAx5
import Derived.Test.YtcicpmhcmlfhbaaGreatDoorPAx6
namespace Go.Proofs.YtcicpmhcmlfhbaaGreatDoor.PA
open Go.RowKit Go.Proofs.YtcicpmhcmlfhbaaGreatDoorW.PrintWords Go.Proofs.YtcicpmhcmlfhbaaGreatDoorW.PrintLast Go.Proofs.YtcicpmhcmlfhbaaGreatDoorW.PrintMore
attribute [local go_sem] max2_int min2_int max_two min_two max_three min_three max_four min_four   -- for this text's walks alone
set_option linter.unusedVariables false
set_option linter.unusedSimpArgs false

/-! ### laws_eqConstraint: function 79 -/

def laws_eqConstraint.f (a0_0 : Int) (a0_1 : Int) (a1_0 : Int) (a1_1 : Int) : Option (Bool) := if a0_0 = a1_0 then (if a0_1 = a1_1 then (some true) else (some false)) else (some false)

def laws_eqConstraint.e (k : Nat) : Refl.Ent G := ⟨79, [(.agg [li, li]), (.agg [li, li])], .one (.c .bool), fun x => laws_eqConstraint.f x.1 x.2.1 x.2.2.1 x.2.2.2⟩
theorem laws_eqConstraint.ok (k : Nat) : Refl.EntOK Tryz.prog (laws_eqConstraint.e k) := Refl.ent_ok 1000000 k GC (fun k => []) (fun k => trivial) Tryz.func79 (by kernel_rfl) [] (ps := []) (by kernel_rfl) trivial (fun x => by kernel_rfl)

/-! ### laws_eqConstraintS: function 43 -/

def laws_eqConstraintS.l0 : Nat → List (S112) → List (S112) → Int → Option (Bool)
  | 0, _, _, _ => none
  | k + 1, x0, x1, x5 => if x5 < (x0.length : Int) then (if 0 ≤ x5 then (if x5 < (x0.length : Int) then (if 0 ≤ x5 then (if x5 < (x1.length : Int) then ((laws_eqConstraint.f ((rd_T112 x0 x5).f0) ((rd_T112 x0 x5).f1) ((rd_T112 x1 x5).f0) ((rd_T112 x1 x5).f1)).bind fun t397 => (if t397 = true then (laws_eqConstraintS.l0 k x0 x1 (wrap64 (x5 + 1))) else (some false))) else (none)) else (none)) else (none)) else (none)) else (some true)

def laws_eqConstraintS.f (k : Nat) (l0 : List (S112)) (l1 : List (S112)) : Option (Bool) := if (l0.length : Int) = (l1.length : Int) then (laws_eqConstraintS.l0 k l0 l1 0) else (some false)

theorem laws_eqConstraintS.mono_l : ∀ k, (∀ y0 y1 y2, LeO (laws_eqConstraintS.l0 k y0 y1 y2) (laws_eqConstraintS.l0 (k + 1) y0 y1 y2))
  | 0 => fun _ _ _ r h => by simp [laws_eqConstraintS.l0] at h
  | k + 1 => by
    have ih0 := laws_eqConstraintS.mono_l k
    · intro y0 y1 y2
      unfold laws_eqConstraintS.l0
      repeat' first
      | (with_reducible exact ih0 _ _ _)
      | (with_reducible exact LeO.refl _)
      | (with_reducible exact LeO.none _)
      | (with_reducible refine LeO.ite ?_ ?_)
      | (with_reducible refine LeO.bind ?_ (fun _ => ?_))
      | exact ih0 _ _ _
      | exact LeO.none _
      | refine LeO.ite ?_ ?_
      | refine LeO.bind ?_ (fun _ => ?_)

theorem laws_eqConstraintS.mono : ∀ a0 a1 k, LeO (laws_eqConstraintS.f k a0 a1) (laws_eqConstraintS.f (k + 1) a0 a1) := by
  intro a0 a1 k
  have ih0 := laws_eqConstraintS.mono_l k
  unfold laws_eqConstraintS.f
  repeat' first
      | (with_reducible exact ih0 _ _ _)
      | (with_reducible exact LeO.refl _)
      | (with_reducible exact LeO.none _)
      | (with_reducible refine LeO.ite ?_ ?_)
      | (with_reducible refine LeO.bind ?_ (fun _ => ?_))
      | exact ih0 _ _ _
      | exact LeO.none _
      | refine LeO.ite ?_ ?_
      | refine LeO.bind ?_ (fun _ => ?_)

def laws_eqConstraintS.e (k : Nat) : Refl.Ent G := ⟨43, [(.c (.row 112 false)), (.c (.row 112 false))], .one (.c .bool), fun x => laws_eqConstraintS.f k x.1 x.2⟩
def laws_eqConstraintS.pl0 : Refl.Pn G (Refl.PT G (laws_eqConstraintS.e 0).ol) := ⟨true, 0, ⟨[(0, .v (.c (.row 112 false))), (1, .v (.c (.row 112 false))), (5, .v (.c li)), (4, .k (Value.bool false))], []⟩, fun k x => laws_eqConstraintS.l0 k x.1 x.2.1 x.2.2⟩
theorem laws_eqConstraintS.ok (k : Nat) : Refl.EntOK Tryz.prog (laws_eqConstraintS.e k) := Refl.ent_ok 1000000 k GC (fun k => [laws_eqConstraint.e k]) (fun k => ⟨laws_eqConstraint.ok k, trivial⟩) Tryz.func43 (by kernel_rfl) [laws_eqConstraintS.pl0] (ps := [laws_eqConstraintS.pl0]) (by kernel_rfl) ⟨⟨fun x => by kernel_rfl, fun k x => by kernel_rfl⟩, trivial⟩ (fun x => by kernel_rfl)

/-! ### laws_markConstraintS: function 44 -/

def laws_markConstraintS.l0 : Nat → List (S112) → Int → Int → Option (Int × (List (S112)))
  | 0, _, _, _ => none
  | k + 1, x0, x1, x5 => if x5 < (x0.length : Int) then (if 0 ≤ x5 then (if x5 < (x0.length : Int) then ((some (x0.set (x5 : Int).toNat (⟨x1, (rd_T112 x0 x5).f1⟩ : S112) : List (S112))).bind fun y398 => (if 0 ≤ x5 then (if x5 < (y398.length : Int) then (laws_markConstraintS.l0 k (y398.set (x5 : Int).toNat (⟨(rd_T112 y398 x5).f0, wrap64 (x1 + 1)⟩ : S112)) (wrap64 ((wrap64 (x1 + 1)) + 1)) (wrap64 (x5 + 1))) else (none)) else (none))) else (none)) else (none)) else (some (x1, x0))

def laws_markConstraintS.f (k : Nat) (l0 : List (S112)) (a1 : Int) : Option (Int × (List (S112))) := laws_markConstraintS.l0 k l0 a1 0

theorem laws_markConstraintS.mono_l : ∀ k, (∀ y0 y1 y2, LeO (laws_markConstraintS.l0 k y0 y1 y2) (laws_markConstraintS.l0 (k + 1) y0 y1 y2))
  | 0 => fun _ _ _ r h => by simp [laws_markConstraintS.l0] at h
  | k + 1 => by
    have ih0 := laws_markConstraintS.mono_l k
    · intro y0 y1 y2
      unfold laws_markConstraintS.l0
      repeat' first
      | (with_reducible exact ih0 _ _ _)
      | (with_reducible exact LeO.refl _)
      | (with_reducible exact LeO.none _)
      | (with_reducible refine LeO.ite ?_ ?_)
      | (with_reducible refine LeO.bind ?_ (fun _ => ?_))
      | exact ih0 _ _ _
      | exact LeO.none _
      | refine LeO.ite ?_ ?_
      | refine LeO.bind ?_ (fun _ => ?_)

theorem laws_markConstraintS.mono : ∀ a0 a1 k, LeO (laws_markConstraintS.f k a0 a1) (laws_markConstraintS.f (k + 1) a0 a1) := by
  intro a0 a1 k
  have ih0 := laws_markConstraintS.mono_l k
  unfold laws_markConstraintS.f
  repeat' first
      | (with_reducible exact ih0 _ _ _)
      | (with_reducible exact LeO.refl _)
      | (with_reducible exact LeO.none _)
      | (with_reducible refine LeO.ite ?_ ?_)
      | (with_reducible refine LeO.bind ?_ (fun _ => ?_))
      | exact ih0 _ _ _
      | exact LeO.none _
      | refine LeO.ite ?_ ?_
      | refine LeO.bind ?_ (fun _ => ?_)

def laws_markConstraintS.e (k : Nat) : Refl.Ent G := ⟨44, [.mrow 112, (.c li)], .one (.c li), fun x => laws_markConstraintS.f k x.1 x.2⟩
def laws_markConstraintS.pl0 : Refl.Pn G (Refl.PT G (laws_markConstraintS.e 0).ol) := ⟨true, 0, ⟨[(0, .v (.c (.own 112))), (1, .v (.c li)), (5, .v (.c li)), (4, .k (Value.int IntKind.i64 0))], []⟩, fun k x => laws_markConstraintS.l0 k x.1 x.2.1 x.2.2⟩
theorem laws_markConstraintS.ok (k : Nat) : Refl.EntOK Tryz.prog (laws_markConstraintS.e k) := Refl.ent_ok 1000000 k GC (fun k => []) (fun k => trivial) Tryz.func44 (by kernel_rfl) [laws_markConstraintS.pl0] (ps := [laws_markConstraintS.pl0]) (by kernel_rfl) ⟨⟨fun x => by kernel_rfl, fun k x => by kernel_rfl⟩, trivial⟩ (fun x => by kernel_rfl)

/-! ### laws_FnExactBrokenBy: function 7 -/

mutual
def laws_FnExactBrokenBy.j0 : Nat → List (S114) → List Int → Bool → List (S112) → List Int → Bool → Bool → Int → Int → Int → Int → Int → Bool → Int → Int → Int → Int → Bool → ByteArray → Int → Bool → Int → Int → Int → Int → Int → Bool → Int → Int → Int → Int → Bool → ByteArray → Int → Option (Bool)
  | 0, _, _, _, _, _, _, _, _, _, _, _, _, _, _, _, _, _, _, _, _, _, _, _, _, _, _, _, _, _, _, _, _, _, _ => none
  | k + 1, x1, x6, x7, x8, x9, x10, x51, x401000, x401001, x401002, x401003, x401004, x401005, x401006, x401007, x401008, x401009, x401010, x401011, x401012, x401013, x401014, x401015, x401016, x401017, x401018, x401019, x401020, x401021, x401022, x401023, x401024, x401025, x401026 => if x51 = true then (some false) else ((laws_toConstraintS.f k x1).bind fun t472 => ((laws_eqConstraintS.f k x8 t472).bind fun t475 => (if t475 = true then ((laws_markConstraintS.f k x8 1).bind fun bt476 => (if bt476.1 < 0 then (laws_FnExactBrokenBy.j1 k x1 x6 x7 x9 true x401000 x401001 x401002 x401003 x401004 x401005 x401006 x401007 x401008 x401009 x401010 x401011 x401012 x401013 x401014 x401015 x401016 x401017 x401018 x401019 x401020 x401021 x401022 x401023 x401024 x401025 x401026) else ((laws_eqIntS.f k x9 x6).bind fun t478 => (if t478 = true then (laws_FnExactBrokenBy.j1 k x1 x6 x7 x9 (!(x10 == x7)) x401000 x401001 x401002 x401003 x401004 x401005 x401006 x401007 x401008 x401009 x401010 x401011 x401012 x401013 x401014 x401015 x401016 x401017 x401018 x401019 x401020 x401021 x401022 x401023 x401024 x401025 x401026) else (laws_FnExactBrokenBy.j1 k x1 x6 x7 x9 true x401000 x401001 x401002 x401003 x401004 x401005 x401006 x401007 x401008 x401009 x401010 x401011 x401012 x401013 x401014 x401015 x401016 x401017 x401018 x401019 x401020 x401021 x401022 x401023 x401024 x401025 x401026))))) else (some false))))
def laws_FnExactBrokenBy.j1 : Nat → List (S114) → List Int → Bool → List Int → Bool → Int → Int → Int → Int → Int → Bool → Int → Int → Int → Int → Bool → ByteArray → Int → Bool → Int → Int → Int → Int → Int → Bool → Int → Int → Int → Int → Bool → ByteArray → Int → Option (Bool)
  | 0, _, _, _, _, _, _, _, _, _, _, _, _, _, _, _, _, _, _, _, _, _, _, _, _, _, _, _, _, _, _, _, _ => none
  | k + 1, x1, x6, x7, x9, x72, x401000, x401001, x401002, x401003, x401004, x401005, x401006, x401007, x401008, x401009, x401010, x401011, x401012, x401013, x401014, x401015, x401016, x401017, x401018, x401019, x401020, x401021, x401022, x401023, x401024, x401025, x401026 => if x72 = true then (some false) else ((laws_markIntS.f k x9 1).bind fun bt479 => ((laws_heldIntS.f k bt479.2 1).bind fun t481 => (if t481 < 0 then (some false) else (if t481 = bt479.1 then ((laws_toSign.f x401000 x401001 x401002 x401003 x401004 x401005 x401006 x401007 x401008 x401009 x401010 x401011 x401012 x401013 x401014 x401015 x401016 x401017 x401018 x401019 x401020 x401021 x401022 x401023 x401024 x401025 x401026).bind fun bt482 => ((laws_toConstraintS.f k x1).bind fun t509 => ((impl_BrokenBy.f k bt482.1 bt482.2.1 bt482.2.2.1 bt482.2.2.2.1 bt482.2.2.2.2.1 bt482.2.2.2.2.2.1 bt482.2.2.2.2.2.2.1 bt482.2.2.2.2.2.2.2.1 bt482.2.2.2.2.2.2.2.2.1 bt482.2.2.2.2.2.2.2.2.2.1 bt482.2.2.2.2.2.2.2.2.2.2.1 bt482.2.2.2.2.2.2.2.2.2.2.2.1 bt482.2.2.2.2.2.2.2.2.2.2.2.2.1 bt482.2.2.2.2.2.2.2.2.2.2.2.2.2.1 bt482.2.2.2.2.2.2.2.2.2.2.2.2.2.2.1 bt482.2.2.2.2.2.2.2.2.2.2.2.2.2.2.2.1 bt482.2.2.2.2.2.2.2.2.2.2.2.2.2.2.2.2.1 bt482.2.2.2.2.2.2.2.2.2.2.2.2.2.2.2.2.2.1 bt482.2.2.2.2.2.2.2.2.2.2.2.2.2.2.2.2.2.2.1 bt482.2.2.2.2.2.2.2.2.2.2.2.2.2.2.2.2.2.2.2.1 bt482.2.2.2.2.2.2.2.2.2.2.2.2.2.2.2.2.2.2.2.2.1 bt482.2.2.2.2.2.2.2.2.2.2.2.2.2.2.2.2.2.2.2.2.2.1 bt482.2.2.2.2.2.2.2.2.2.2.2.2.2.2.2.2.2.2.2.2.2.2.1 bt482.2.2.2.2.2.2.2.2.2.2.2.2.2.2.2.2.2.2.2.2.2.2.2.1 bt482.2.2.2.2.2.2.2.2.2.2.2.2.2.2.2.2.2.2.2.2.2.2.2.2.1 bt482.2.2.2.2.2.2.2.2.2.2.2.2.2.2.2.2.2.2.2.2.2.2.2.2.2.1 bt482.2.2.2.2.2.2.2.2.2.2.2.2.2.2.2.2.2.2.2.2.2.2.2.2.2.2 t509).bind fun bt512 => ((laws_eqIntS.f k bt512.1 x6).bind fun t516 => (if t516 = true then (laws_FnExactBrokenBy.j2 k bt479.2 bt479.1 (!(bt512.2 == x7))) else (laws_FnExactBrokenBy.j2 k bt479.2 bt479.1 true)))))) else (some false)))))
def laws_FnExactBrokenBy.j2 : Nat → List Int → Int → Bool → Option (Bool)
  | 0, _, _, _ => none
  | k + 1, x9, x12, x100 => if x100 = true then (some false) else ((laws_heldIntS.f k x9 1).bind fun t517 => (if t517 < 0 then (some false) else (if t517 = x12 then (some true) else (some false))))
end

def laws_FnExactBrokenBy.f (k : Nat) (a0_0 : Int) (a0_1 : Int) (a0_2 : Int) (a0_3 : Int) (a0_4 : Int) (a0_5 : Bool) (a0_6 : Int) (a0_7 : Int) (a0_8 : Int) (a0_9 : Int) (a0_10 : Bool) (a0_11 : ByteArray) (a0_12 : Int) (a0_13 : Bool) (a0_14 : Int) (a0_15 : Int) (a0_16 : Int) (a0_17 : Int) (a0_18 : Int) (a0_19 : Bool) (a0_20 : Int) (a0_21 : Int) (a0_22 : Int) (a0_23 : Int) (a0_24 : Bool) (a0_25 : ByteArray) (a0_26 : Int) (l1 : List (S114)) : Option (Bool) := (laws_szSign.f a0_0 a0_1 a0_2 a0_3 a0_4 a0_5 a0_6 a0_7 a0_8 a0_9 a0_10 a0_11 a0_12 a0_13 a0_14 a0_15 a0_16 a0_17 a0_18 a0_19 a0_20 a0_21 a0_22 a0_23 a0_24 a0_25 a0_26 1048576).bind fun t401 => (if t401 < 0 then (some true) else ((laws_szConstraintS.f l1 t401).bind fun t402 => (if t402 < 0 then (some true) else ((laws_toSign.f a0_0 a0_1 a0_2 a0_3 a0_4 a0_5 a0_6 a0_7 a0_8 a0_9 a0_10 a0_11 a0_12 a0_13 a0_14 a0_15 a0_16 a0_17 a0_18 a0_19 a0_20 a0_21 a0_22 a0_23 a0_24 a0_25 a0_26).bind fun bt403 => ((laws_toConstraintS.f k l1).bind fun t430 => ((spec_BrokenBy.f k bt403.1 bt403.2.1 bt403.2.2.1 bt403.2.2.2.1 bt403.2.2.2.2.1 bt403.2.2.2.2.2.1 bt403.2.2.2.2.2.2.1 bt403.2.2.2.2.2.2.2.1 bt403.2.2.2.2.2.2.2.2.1 bt403.2.2.2.2.2.2.2.2.2.1 bt403.2.2.2.2.2.2.2.2.2.2.1 bt403.2.2.2.2.2.2.2.2.2.2.2.1 bt403.2.2.2.2.2.2.2.2.2.2.2.2.1 bt403.2.2.2.2.2.2.2.2.2.2.2.2.2.1 bt403.2.2.2.2.2.2.2.2.2.2.2.2.2.2.1 bt403.2.2.2.2.2.2.2.2.2.2.2.2.2.2.2.1 bt403.2.2.2.2.2.2.2.2.2.2.2.2.2.2.2.2.1 bt403.2.2.2.2.2.2.2.2.2.2.2.2.2.2.2.2.2.1 bt403.2.2.2.2.2.2.2.2.2.2.2.2.2.2.2.2.2.2.1 bt403.2.2.2.2.2.2.2.2.2.2.2.2.2.2.2.2.2.2.2.1 bt403.2.2.2.2.2.2.2.2.2.2.2.2.2.2.2.2.2.2.2.2.1 bt403.2.2.2.2.2.2.2.2.2.2.2.2.2.2.2.2.2.2.2.2.2.1 bt403.2.2.2.2.2.2.2.2.2.2.2.2.2.2.2.2.2.2.2.2.2.2.1 bt403.2.2.2.2.2.2.2.2.2.2.2.2.2.2.2.2.2.2.2.2.2.2.2.1 bt403.2.2.2.2.2.2.2.2.2.2.2.2.2.2.2.2.2.2.2.2.2.2.2.2.1 bt403.2.2.2.2.2.2.2.2.2.2.2.2.2.2.2.2.2.2.2.2.2.2.2.2.2.1 bt403.2.2.2.2.2.2.2.2.2.2.2.2.2.2.2.2.2.2.2.2.2.2.2.2.2.2 t430).bind fun bt433 => ((laws_toConstraintS.f k l1).bind fun t437 => ((laws_toSign.f a0_0 a0_1 a0_2 a0_3 a0_4 a0_5 a0_6 a0_7 a0_8 a0_9 a0_10 a0_11 a0_12 a0_13 a0_14 a0_15 a0_16 a0_17 a0_18 a0_19 a0_20 a0_21 a0_22 a0_23 a0_24 a0_25 a0_26).bind fun bt440 => ((impl_BrokenBy.f k bt440.1 bt440.2.1 bt440.2.2.1 bt440.2.2.2.1 bt440.2.2.2.2.1 bt440.2.2.2.2.2.1 bt440.2.2.2.2.2.2.1 bt440.2.2.2.2.2.2.2.1 bt440.2.2.2.2.2.2.2.2.1 bt440.2.2.2.2.2.2.2.2.2.1 bt440.2.2.2.2.2.2.2.2.2.2.1 bt440.2.2.2.2.2.2.2.2.2.2.2.1 bt440.2.2.2.2.2.2.2.2.2.2.2.2.1 bt440.2.2.2.2.2.2.2.2.2.2.2.2.2.1 bt440.2.2.2.2.2.2.2.2.2.2.2.2.2.2.1 bt440.2.2.2.2.2.2.2.2.2.2.2.2.2.2.2.1 bt440.2.2.2.2.2.2.2.2.2.2.2.2.2.2.2.2.1 bt440.2.2.2.2.2.2.2.2.2.2.2.2.2.2.2.2.2.1 bt440.2.2.2.2.2.2.2.2.2.2.2.2.2.2.2.2.2.2.1 bt440.2.2.2.2.2.2.2.2.2.2.2.2.2.2.2.2.2.2.2.1 bt440.2.2.2.2.2.2.2.2.2.2.2.2.2.2.2.2.2.2.2.2.1 bt440.2.2.2.2.2.2.2.2.2.2.2.2.2.2.2.2.2.2.2.2.2.1 bt440.2.2.2.2.2.2.2.2.2.2.2.2.2.2.2.2.2.2.2.2.2.2.1 bt440.2.2.2.2.2.2.2.2.2.2.2.2.2.2.2.2.2.2.2.2.2.2.2.1 bt440.2.2.2.2.2.2.2.2.2.2.2.2.2.2.2.2.2.2.2.2.2.2.2.2.1 bt440.2.2.2.2.2.2.2.2.2.2.2.2.2.2.2.2.2.2.2.2.2.2.2.2.2.1 bt440.2.2.2.2.2.2.2.2.2.2.2.2.2.2.2.2.2.2.2.2.2.2.2.2.2.2 t437).bind fun bt467 => ((laws_eqIntS.f k bt467.1 bt433.1).bind fun t471 => (if t471 = true then (laws_FnExactBrokenBy.j0 k l1 bt433.1 bt433.2 t437 bt467.1 bt467.2 (!(bt467.2 == bt433.2)) a0_0 a0_1 a0_2 a0_3 a0_4 a0_5 a0_6 a0_7 a0_8 a0_9 a0_10 a0_11 a0_12 a0_13 a0_14 a0_15 a0_16 a0_17 a0_18 a0_19 a0_20 a0_21 a0_22 a0_23 a0_24 a0_25 a0_26) else (laws_FnExactBrokenBy.j0 k l1 bt433.1 bt433.2 t437 bt467.1 bt467.2 true a0_0 a0_1 a0_2 a0_3 a0_4 a0_5 a0_6 a0_7 a0_8 a0_9 a0_10 a0_11 a0_12 a0_13 a0_14 a0_15 a0_16 a0_17 a0_18 a0_19 a0_20 a0_21 a0_22 a0_23 a0_24 a0_25 a0_26))))))))))))

theorem laws_FnExactBrokenBy.mono_l : ∀ k, (∀ y0 y1 y2 y3 y4 y5 y6 y7 y8 y9 y10 y11 y12 y13 y14 y15 y16 y17 y18 y19 y20 y21 y22 y23 y24 y25 y26 y27 y28 y29 y30 y31 y32 y33, LeO (laws_FnExactBrokenBy.j0 k y0 y1 y2 y3 y4 y5 y6 y7 y8 y9 y10 y11 y12 y13 y14 y15 y16 y17 y18 y19 y20 y21 y22 y23 y24 y25 y26 y27 y28 y29 y30 y31 y32 y33) (laws_FnExactBrokenBy.j0 (k + 1) y0 y1 y2 y3 y4 y5 y6 y7 y8 y9 y10 y11 y12 y13 y14 y15 y16 y17 y18 y19 y20 y21 y22 y23 y24 y25 y26 y27 y28 y29 y30 y31 y32 y33)) ∧ (∀ y0 y1 y2 y3 y4 y5 y6 y7 y8 y9 y10 y11 y12 y13 y14 y15 y16 y17 y18 y19 y20 y21 y22 y23 y24 y25 y26 y27 y28 y29 y30 y31, LeO (laws_FnExactBrokenBy.j1 k y0 y1 y2 y3 y4 y5 y6 y7 y8 y9 y10 y11 y12 y13 y14 y15 y16 y17 y18 y19 y20 y21 y22 y23 y24 y25 y26 y27 y28 y29 y30 y31) (laws_FnExactBrokenBy.j1 (k + 1) y0 y1 y2 y3 y4 y5 y6 y7 y8 y9 y10 y11 y12 y13 y14 y15 y16 y17 y18 y19 y20 y21 y22 y23 y24 y25 y26 y27 y28 y29 y30 y31)) ∧ (∀ y0 y1 y2, LeO (laws_FnExactBrokenBy.j2 k y0 y1 y2) (laws_FnExactBrokenBy.j2 (k + 1) y0 y1 y2))
  | 0 => ⟨fun _ _ _ _ _ _ _ _ _ _ _ _ _ _ _ _ _ _ _ _ _ _ _ _ _ _ _ _ _ _ _ _ _ _ r h => by simp [laws_FnExactBrokenBy.j0] at h, fun _ _ _ _ _ _ _ _ _ _ _ _ _ _ _ _ _ _ _ _ _ _ _ _ _ _ _ _ _ _ _ _ r h => by simp [laws_FnExactBrokenBy.j1] at h, fun _ _ _ r h => by simp [laws_FnExactBrokenBy.j2] at h⟩
  | k + 1 => by
    obtain ⟨ih0, ih1, ih2⟩ := laws_FnExactBrokenBy.mono_l k
    refine ⟨?_, ?_, ?_⟩
    · intro y0 y1 y2 y3 y4 y5 y6 y7 y8 y9 y10 y11 y12 y13 y14 y15 y16 y17 y18 y19 y20 y21 y22 y23 y24 y25 y26 y27 y28 y29 y30 y31 y32 y33
      unfold laws_FnExactBrokenBy.j0
      repeat' first
      | (with_reducible exact ih0 _ _ _ _ _ _ _ _ _ _ _ _ _ _ _ _ _ _ _ _ _ _ _ _ _ _ _ _ _ _ _ _ _ _)
      | (with_reducible exact ih1 _ _ _ _ _ _ _ _ _ _ _ _ _ _ _ _ _ _ _ _ _ _ _ _ _ _ _ _ _ _ _ _)
      | (with_reducible exact ih2 _ _ _)
      | (with_reducible exact impl_BrokenBy.mono _ _ _ _ _ _ _ _ _ _ _ _ _ _ _ _ _ _ _ _ _ _ _ _ _ _ _ _ _)
      | (with_reducible exact laws_eqConstraintS.mono _ _ _)
      | (with_reducible exact laws_eqIntS.mono _ _ _)
      | (with_reducible exact laws_heldIntS.mono _ _ _)
      | (with_reducible exact laws_markConstraintS.mono _ _ _)
      | (with_reducible exact laws_markIntS.mono _ _ _)
      | (with_reducible exact laws_toConstraintS.mono _ _)
      | (with_reducible exact spec_BrokenBy.mono _ _ _ _ _ _ _ _ _ _ _ _ _ _ _ _ _ _ _ _ _ _ _ _ _ _ _ _ _)
      | (with_reducible exact LeO.refl _)
      | (with_reducible exact LeO.none _)
      | (with_reducible refine LeO.ite ?_ ?_)
      | (with_reducible refine LeO.bind ?_ (fun _ => ?_))
      | exact ih0 _ _ _ _ _ _ _ _ _ _ _ _ _ _ _ _ _ _ _ _ _ _ _ _ _ _ _ _ _ _ _ _ _ _
      | exact ih1 _ _ _ _ _ _ _ _ _ _ _ _ _ _ _ _ _ _ _ _ _ _ _ _ _ _ _ _ _ _ _ _
      | exact ih2 _ _ _
      | exact impl_BrokenBy.mono _ _ _ _ _ _ _ _ _ _ _ _ _ _ _ _ _ _ _ _ _ _ _ _ _ _ _ _ _
      | exact laws_eqConstraintS.mono _ _ _
      | exact laws_eqIntS.mono _ _ _
      | exact laws_heldIntS.mono _ _ _
      | exact laws_markConstraintS.mono _ _ _
      | exact laws_markIntS.mono _ _ _
      | exact laws_toConstraintS.mono _ _
      | exact spec_BrokenBy.mono _ _ _ _ _ _ _ _ _ _ _ _ _ _ _ _ _ _ _ _ _ _ _ _ _ _ _ _ _
      | exact LeO.none _
      | refine LeO.ite ?_ ?_
      | refine LeO.bind ?_ (fun _ => ?_)
    · intro y0 y1 y2 y3 y4 y5 y6 y7 y8 y9 y10 y11 y12 y13 y14 y15 y16 y17 y18 y19 y20 y21 y22 y23 y24 y25 y26 y27 y28 y29 y30 y31
      unfold laws_FnExactBrokenBy.j1
      repeat' first
      | (with_reducible exact ih0 _ _ _ _ _ _ _ _ _ _ _ _ _ _ _ _ _ _ _ _ _ _ _ _ _ _ _ _ _ _ _ _ _ _)
      | (with_reducible exact ih1 _ _ _ _ _ _ _ _ _ _ _ _ _ _ _ _ _ _ _ _ _ _ _ _ _ _ _ _ _ _ _ _)
      | (with_reducible exact ih2 _ _ _)
      | (with_reducible exact impl_BrokenBy.mono _ _ _ _ _ _ _ _ _ _ _ _ _ _ _ _ _ _ _ _ _ _ _ _ _ _ _ _ _)
      | (with_reducible exact laws_eqConstraintS.mono _ _ _)
      | (with_reducible exact laws_eqIntS.mono _ _ _)
      | (with_reducible exact laws_heldIntS.mono _ _ _)
      | (with_reducible exact laws_markConstraintS.mono _ _ _)
      | (with_reducible exact laws_markIntS.mono _ _ _)
      | (with_reducible exact laws_toConstraintS.mono _ _)
      | (with_reducible exact spec_BrokenBy.mono _ _ _ _ _ _ _ _ _ _ _ _ _ _ _ _ _ _ _ _ _ _ _ _ _ _ _ _ _)
      | (with_reducible exact LeO.refl _)
      | (with_reducible exact LeO.none _)
      | (with_reducible refine LeO.ite ?_ ?_)
      | (with_reducible refine LeO.bind ?_ (fun _ => ?_))
      | exact ih0 _ _ _ _ _ _ _ _ _ _ _ _ _ _ _ _ _ _ _ _ _ _ _ _ _ _ _ _ _ _ _ _ _ _
      | exact ih1 _ _ _ _ _ _ _ _ _ _ _ _ _ _ _ _ _ _ _ _ _ _ _ _ _ _ _ _ _ _ _ _
      | exact ih2 _ _ _
      | exact impl_BrokenBy.mono _ _ _ _ _ _ _ _ _ _ _ _ _ _ _ _ _ _ _ _ _ _ _ _ _ _ _ _ _
      | exact laws_eqConstraintS.mono _ _ _
      | exact laws_eqIntS.mono _ _ _
      | exact laws_heldIntS.mono _ _ _
      | exact laws_markConstraintS.mono _ _ _
      | exact laws_markIntS.mono _ _ _
      | exact laws_toConstraintS.mono _ _
      | exact spec_BrokenBy.mono _ _ _ _ _ _ _ _ _ _ _ _ _ _ _ _ _ _ _ _ _ _ _ _ _ _ _ _ _
      | exact LeO.none _
      | refine LeO.ite ?_ ?_
      | refine LeO.bind ?_ (fun _ => ?_)
    · intro y0 y1 y2
      unfold laws_FnExactBrokenBy.j2
      repeat' first
      | (with_reducible exact ih0 _ _ _ _ _ _ _ _ _ _ _ _ _ _ _ _ _ _ _ _ _ _ _ _ _ _ _ _ _ _ _ _ _ _)
      | (with_reducible exact ih1 _ _ _ _ _ _ _ _ _ _ _ _ _ _ _ _ _ _ _ _ _ _ _ _ _ _ _ _ _ _ _ _)
      | (with_reducible exact ih2 _ _ _)
      | (with_reducible exact impl_BrokenBy.mono _ _ _ _ _ _ _ _ _ _ _ _ _ _ _ _ _ _ _ _ _ _ _ _ _ _ _ _ _)
      | (with_reducible exact laws_eqConstraintS.mono _ _ _)
      | (with_reducible exact laws_eqIntS.mono _ _ _)
      | (with_reducible exact laws_heldIntS.mono _ _ _)
      | (with_reducible exact laws_markConstraintS.mono _ _ _)
      | (with_reducible exact laws_markIntS.mono _ _ _)
      | (with_reducible exact laws_toConstraintS.mono _ _)
      | (with_reducible exact spec_BrokenBy.mono _ _ _ _ _ _ _ _ _ _ _ _ _ _ _ _ _ _ _ _ _ _ _ _ _ _ _ _ _)
      | (with_reducible exact LeO.refl _)
      | (with_reducible exact LeO.none _)
      | (with_reducible refine LeO.ite ?_ ?_)
      | (with_reducible refine LeO.bind ?_ (fun _ => ?_))
      | exact ih0 _ _ _ _ _ _ _ _ _ _ _ _ _ _ _ _ _ _ _ _ _ _ _ _ _ _ _ _ _ _ _ _ _ _
      | exact ih1 _ _ _ _ _ _ _ _ _ _ _ _ _ _ _ _ _ _ _ _ _ _ _ _ _ _ _ _ _ _ _ _
      | exact ih2 _ _ _
      | exact impl_BrokenBy.mono _ _ _ _ _ _ _ _ _ _ _ _ _ _ _ _ _ _ _ _ _ _ _ _ _ _ _ _ _
      | exact laws_eqConstraintS.mono _ _ _
      | exact laws_eqIntS.mono _ _ _
      | exact laws_heldIntS.mono _ _ _
      | exact laws_markConstraintS.mono _ _ _
      | exact laws_markIntS.mono _ _ _
      | exact laws_toConstraintS.mono _ _
      | exact spec_BrokenBy.mono _ _ _ _ _ _ _ _ _ _ _ _ _ _ _ _ _ _ _ _ _ _ _ _ _ _ _ _ _
      | exact LeO.none _
      | refine LeO.ite ?_ ?_
      | refine LeO.bind ?_ (fun _ => ?_)

theorem laws_FnExactBrokenBy.mono : ∀ a0 a1 a2 a3 a4 a5 a6 a7 a8 a9 a10 a11 a12 a13 a14 a15 a16 a17 a18 a19 a20 a21 a22 a23 a24 a25 a26 a27 k, LeO (laws_FnExactBrokenBy.f k a0 a1 a2 a3 a4 a5 a6 a7 a8 a9 a10 a11 a12 a13 a14 a15 a16 a17 a18 a19 a20 a21 a22 a23 a24 a25 a26 a27) (laws_FnExactBrokenBy.f (k + 1) a0 a1 a2 a3 a4 a5 a6 a7 a8 a9 a10 a11 a12 a13 a14 a15 a16 a17 a18 a19 a20 a21 a22 a23 a24 a25 a26 a27) := by
  intro a0 a1 a2 a3 a4 a5 a6 a7 a8 a9 a10 a11 a12 a13 a14 a15 a16 a17 a18 a19 a20 a21 a22 a23 a24 a25 a26 a27 k
  obtain ⟨ih0, ih1, ih2⟩ := laws_FnExactBrokenBy.mono_l k
  unfold laws_FnExactBrokenBy.f
  repeat' first
      | (with_reducible exact ih0 _ _ _ _ _ _ _ _ _ _ _ _ _ _ _ _ _ _ _ _ _ _ _ _ _ _ _ _ _ _ _ _ _ _)
      | (with_reducible exact ih1 _ _ _ _ _ _ _ _ _ _ _ _ _ _ _ _ _ _ _ _ _ _ _ _ _ _ _ _ _ _ _ _)
      | (with_reducible exact ih2 _ _ _)
      | (with_reducible exact impl_BrokenBy.mono _ _ _ _ _ _ _ _ _ _ _ _ _ _ _ _ _ _ _ _ _ _ _ _ _ _ _ _ _)
      | (with_reducible exact laws_eqConstraintS.mono _ _ _)
      | (with_reducible exact laws_eqIntS.mono _ _ _)
      | (with_reducible exact laws_heldIntS.mono _ _ _)
      | (with_reducible exact laws_markConstraintS.mono _ _ _)
      | (with_reducible exact laws_markIntS.mono _ _ _)
      | (with_reducible exact laws_toConstraintS.mono _ _)
      | (with_reducible exact spec_BrokenBy.mono _ _ _ _ _ _ _ _ _ _ _ _ _ _ _ _ _ _ _ _ _ _ _ _ _ _ _ _ _)
      | (with_reducible exact LeO.refl _)
      | (with_reducible exact LeO.none _)
      | (with_reducible refine LeO.ite ?_ ?_)
      | (with_reducible refine LeO.bind ?_ (fun _ => ?_))
      | exact ih0 _ _ _ _ _ _ _ _ _ _ _ _ _ _ _ _ _ _ _ _ _ _ _ _ _ _ _ _ _ _ _ _ _ _
      | exact ih1 _ _ _ _ _ _ _ _ _ _ _ _ _ _ _ _ _ _ _ _ _ _ _ _ _ _ _ _ _ _ _ _
      | exact ih2 _ _ _
      | exact impl_BrokenBy.mono _ _ _ _ _ _ _ _ _ _ _ _ _ _ _ _ _ _ _ _ _ _ _ _ _ _ _ _ _
      | exact laws_eqConstraintS.mono _ _ _
      | exact laws_eqIntS.mono _ _ _
      | exact laws_heldIntS.mono _ _ _
      | exact laws_markConstraintS.mono _ _ _
      | exact laws_markIntS.mono _ _ _
      | exact laws_toConstraintS.mono _ _
      | exact spec_BrokenBy.mono _ _ _ _ _ _ _ _ _ _ _ _ _ _ _ _ _ _ _ _ _ _ _ _ _ _ _ _ _
      | exact LeO.none _
      | refine LeO.ite ?_ ?_
      | refine LeO.bind ?_ (fun _ => ?_)

def laws_FnExactBrokenBy.e (k : Nat) : Refl.Ent G := ⟨7, [(.agg gL1), (.c (.row 114 false))], .one (.c .bool), fun x => laws_FnExactBrokenBy.f k x.1 x.2.1 x.2.2.1 x.2.2.2.1 x.2.2.2.2.1 x.2.2.2.2.2.1 x.2.2.2.2.2.2.1 x.2.2.2.2.2.2.2.1 x.2.2.2.2.2.2.2.2.1 x.2.2.2.2.2.2.2.2.2.1 x.2.2.2.2.2.2.2.2.2.2.1 x.2.2.2.2.2.2.2.2.2.2.2.1 x.2.2.2.2.2.2.2.2.2.2.2.2.1 x.2.2.2.2.2.2.2.2.2.2.2.2.2.1 x.2.2.2.2.2.2.2.2.2.2.2.2.2.2.1 x.2.2.2.2.2.2.2.2.2.2.2.2.2.2.2.1 x.2.2.2.2.2.2.2.2.2.2.2.2.2.2.2.2.1 x.2.2.2.2.2.2.2.2.2.2.2.2.2.2.2.2.2.1 x.2.2.2.2.2.2.2.2.2.2.2.2.2.2.2.2.2.2.1 x.2.2.2.2.2.2.2.2.2.2.2.2.2.2.2.2.2.2.2.1 x.2.2.2.2.2.2.2.2.2.2.2.2.2.2.2.2.2.2.2.2.1 x.2.2.2.2.2.2.2.2.2.2.2.2.2.2.2.2.2.2.2.2.2.1 x.2.2.2.2.2.2.2.2.2.2.2.2.2.2.2.2.2.2.2.2.2.2.1 x.2.2.2.2.2.2.2.2.2.2.2.2.2.2.2.2.2.2.2.2.2.2.2.1 x.2.2.2.2.2.2.2.2.2.2.2.2.2.2.2.2.2.2.2.2.2.2.2.2.1 x.2.2.2.2.2.2.2.2.2.2.2.2.2.2.2.2.2.2.2.2.2.2.2.2.2.1 x.2.2.2.2.2.2.2.2.2.2.2.2.2.2.2.2.2.2.2.2.2.2.2.2.2.2.1 x.2.2.2.2.2.2.2.2.2.2.2.2.2.2.2.2.2.2.2.2.2.2.2.2.2.2.2⟩
def laws_FnExactBrokenBy.pj0 : Refl.Pn G (Refl.PT G (laws_FnExactBrokenBy.e 0).ol) := ⟨false, 1000011, ⟨[(1, .v (.c (.row 114 false))), (6, .v (.c (.own 3))), (7, .v (.c .bool)), (8, .v (.c (.own 112))), (9, .v (.c (.own 3))), (10, .v (.c .bool)), (51, .v (.c .bool)), (2, .box 2 0), (4, .k (Value.bool false))], [(2, 70, gL6)]⟩, fun k x => laws_FnExactBrokenBy.j0 k x.1 x.2.1 x.2.2.1 x.2.2.2.1 x.2.2.2.2.1 x.2.2.2.2.2.1 x.2.2.2.2.2.2.1 x.2.2.2.2.2.2.2.1 x.2.2.2.2.2.2.2.2.1 x.2.2.2.2.2.2.2.2.2.1 x.2.2.2.2.2.2.2.2.2.2.1 x.2.2.2.2.2.2.2.2.2.2.2.1 x.2.2.2.2.2.2.2.2.2.2.2.2.1 x.2.2.2.2.2.2.2.2.2.2.2.2.2.1 x.2.2.2.2.2.2.2.2.2.2.2.2.2.2.1 x.2.2.2.2.2.2.2.2.2.2.2.2.2.2.2.1 x.2.2.2.2.2.2.2.2.2.2.2.2.2.2.2.2.1 x.2.2.2.2.2.2.2.2.2.2.2.2.2.2.2.2.2.1 x.2.2.2.2.2.2.2.2.2.2.2.2.2.2.2.2.2.2.1 x.2.2.2.2.2.2.2.2.2.2.2.2.2.2.2.2.2.2.2.1 x.2.2.2.2.2.2.2.2.2.2.2.2.2.2.2.2.2.2.2.2.1 x.2.2.2.2.2.2.2.2.2.2.2.2.2.2.2.2.2.2.2.2.2.1 x.2.2.2.2.2.2.2.2.2.2.2.2.2.2.2.2.2.2.2.2.2.2.1 x.2.2.2.2.2.2.2.2.2.2.2.2.2.2.2.2.2.2.2.2.2.2.2.1 x.2.2.2.2.2.2.2.2.2.2.2.2.2.2.2.2.2.2.2.2.2.2.2.2.1 x.2.2.2.2.2.2.2.2.2.2.2.2.2.2.2.2.2.2.2.2.2.2.2.2.2.1 x.2.2.2.2.2.2.2.2.2.2.2.2.2.2.2.2.2.2.2.2.2.2.2.2.2.2.1 x.2.2.2.2.2.2.2.2.2.2.2.2.2.2.2.2.2.2.2.2.2.2.2.2.2.2.2.1 x.2.2.2.2.2.2.2.2.2.2.2.2.2.2.2.2.2.2.2.2.2.2.2.2.2.2.2.2.1 x.2.2.2.2.2.2.2.2.2.2.2.2.2.2.2.2.2.2.2.2.2.2.2.2.2.2.2.2.2.1 x.2.2.2.2.2.2.2.2.2.2.2.2.2.2.2.2.2.2.2.2.2.2.2.2.2.2.2.2.2.2.1 x.2.2.2.2.2.2.2.2.2.2.2.2.2.2.2.2.2.2.2.2.2.2.2.2.2.2.2.2.2.2.2.1 x.2.2.2.2.2.2.2.2.2.2.2.2.2.2.2.2.2.2.2.2.2.2.2.2.2.2.2.2.2.2.2.2.1 x.2.2.2.2.2.2.2.2.2.2.2.2.2.2.2.2.2.2.2.2.2.2.2.2.2.2.2.2.2.2.2.2.2⟩
def laws_FnExactBrokenBy.pj1 : Refl.Pn G (Refl.PT G (laws_FnExactBrokenBy.e 0).ol) := ⟨false, 1000017, ⟨[(1, .v (.c (.row 114 false))), (6, .v (.c (.own 3))), (7, .v (.c .bool)), (9, .v (.c (.own 3))), (72, .v (.c .bool)), (2, .box 2 0), (4, .k (Value.bool false))], [(2, 70, gL6)]⟩, fun k x => laws_FnExactBrokenBy.j1 k x.1 x.2.1 x.2.2.1 x.2.2.2.1 x.2.2.2.2.1 x.2.2.2.2.2.1 x.2.2.2.2.2.2.1 x.2.2.2.2.2.2.2.1 x.2.2.2.2.2.2.2.2.1 x.2.2.2.2.2.2.2.2.2.1 x.2.2.2.2.2.2.2.2.2.2.1 x.2.2.2.2.2.2.2.2.2.2.2.1 x.2.2.2.2.2.2.2.2.2.2.2.2.1 x.2.2.2.2.2.2.2.2.2.2.2.2.2.1 x.2.2.2.2.2.2.2.2.2.2.2.2.2.2.1 x.2.2.2.2.2.2.2.2.2.2.2.2.2.2.2.1 x.2.2.2.2.2.2.2.2.2.2.2.2.2.2.2.2.1 x.2.2.2.2.2.2.2.2.2.2.2.2.2.2.2.2.2.1 x.2.2.2.2.2.2.2.2.2.2.2.2.2.2.2.2.2.2.1 x.2.2.2.2.2.2.2.2.2.2.2.2.2.2.2.2.2.2.2.1 x.2.2.2.2.2.2.2.2.2.2.2.2.2.2.2.2.2.2.2.2.1 x.2.2.2.2.2.2.2.2.2.2.2.2.2.2.2.2.2.2.2.2.2.1 x.2.2.2.2.2.2.2.2.2.2.2.2.2.2.2.2.2.2.2.2.2.2.1 x.2.2.2.2.2.2.2.2.2.2.2.2.2.2.2.2.2.2.2.2.2.2.2.1 x.2.2.2.2.2.2.2.2.2.2.2.2.2.2.2.2.2.2.2.2.2.2.2.2.1 x.2.2.2.2.2.2.2.2.2.2.2.2.2.2.2.2.2.2.2.2.2.2.2.2.2.1 x.2.2.2.2.2.2.2.2.2.2.2.2.2.2.2.2.2.2.2.2.2.2.2.2.2.2.1 x.2.2.2.2.2.2.2.2.2.2.2.2.2.2.2.2.2.2.2.2.2.2.2.2.2.2.2.1 x.2.2.2.2.2.2.2.2.2.2.2.2.2.2.2.2.2.2.2.2.2.2.2.2.2.2.2.2.1 x.2.2.2.2.2.2.2.2.2.2.2.2.2.2.2.2.2.2.2.2.2.2.2.2.2.2.2.2.2.1 x.2.2.2.2.2.2.2.2.2.2.2.2.2.2.2.2.2.2.2.2.2.2.2.2.2.2.2.2.2.2.1 x.2.2.2.2.2.2.2.2.2.2.2.2.2.2.2.2.2.2.2.2.2.2.2.2.2.2.2.2.2.2.2⟩
def laws_FnExactBrokenBy.pj2 : Refl.Pn G (Refl.PT G (laws_FnExactBrokenBy.e 0).ol) := ⟨false, 1000028, ⟨[(9, .v (.c (.own 3))), (12, .v (.c li)), (100, .v (.c .bool)), (4, .k (Value.bool false))], []⟩, fun k x => laws_FnExactBrokenBy.j2 k x.1 x.2.1 x.2.2⟩
theorem laws_FnExactBrokenBy.ok (k : Nat) : Refl.EntOK Tryz.prog (laws_FnExactBrokenBy.e k) := Refl.ent_ok 1000000 k GC (fun k => [laws_szSign.e k, laws_szConstraintS.e k, laws_toSign.e k, laws_toConstraintS.e k, spec_BrokenBy.e k, impl_BrokenBy.e k, laws_eqIntS.e k, laws_eqConstraintS.e k, laws_markConstraintS.e k, laws_markIntS.e k, laws_heldIntS.e k]) (fun k => ⟨laws_szSign.ok k, laws_szConstraintS.ok k, laws_toSign.ok k, laws_toConstraintS.ok k, spec_BrokenBy.ok k, impl_BrokenBy.ok k, laws_eqIntS.ok k, laws_eqConstraintS.ok k, laws_markConstraintS.ok k, laws_markIntS.ok k, laws_heldIntS.ok k, trivial⟩) Tryz.func7 (by kernel_rfl) [laws_FnExactBrokenBy.pj0, laws_FnExactBrokenBy.pj1, laws_FnExactBrokenBy.pj2] (ps := [laws_FnExactBrokenBy.pj0, laws_FnExactBrokenBy.pj1, laws_FnExactBrokenBy.pj2]) (by kernel_rfl) ⟨⟨fun x => by kernel_rfl, fun k x => by kernel_rfl⟩, ⟨fun x => by kernel_rfl, fun k x => by kernel_rfl⟩, ⟨fun x => by kernel_rfl, fun k x => by kernel_rfl⟩, trivial⟩ (fun x => by kernel_rfl)

theorem laws_FnExactBrokenBy.calls (k : Nat) (a0_0 : Int) (a0_1 : Int) (a0_2 : Int) (a0_3 : Int) (a0_4 : Int) (a0_5 : Bool) (a0_6 : Int) (a0_7 : Int) (a0_8 : Int) (a0_9 : Int) (a0_10 : Bool) (a0_11 : ByteArray) (a0_12 : Int) (a0_13 : Bool) (a0_14 : Int) (a0_15 : Int) (a0_16 : Int) (a0_17 : Int) (a0_18 : Int) (a0_19 : Bool) (a0_20 : Int) (a0_21 : Int) (a0_22 : Int) (a0_23 : Int) (a0_24 : Bool) (a0_25 : ByteArray) (a0_26 : Int) (A1 : Option Addr) (c1 : Nat) (l1 : List (S114)) (r : Bool) (w : World) (hr1 : Kd.C k114 w A1 l1.length l1) (hc1 : l1.length ≤ c1) (h : laws_FnExactBrokenBy.f k a0_0 a0_1 a0_2 a0_3 a0_4 a0_5 a0_6 a0_7 a0_8 a0_9 a0_10 a0_11 a0_12 a0_13 a0_14 a0_15 a0_16 a0_17 a0_18 a0_19 a0_20 a0_21 a0_22 a0_23 a0_24 a0_25 a0_26 l1 = some r) :
    Calls Tryz.prog 7 #[.agg #[.int .i64 a0_0, .int .i64 a0_1, .int .i64 a0_2, .int .i64 a0_3, .int .i64 a0_4, .bool a0_5, .int .i64 a0_6, .int .i64 a0_7, .int .i64 a0_8, .int .i64 a0_9, .bool a0_10, .string a0_11, .int .i64 a0_12, .bool a0_13, .int .i64 a0_14, .int .i64 a0_15, .int .i64 a0_16, .int .i64 a0_17, .int .i64 a0_18, .bool a0_19, .int .i64 a0_20, .int .i64 a0_21, .int .i64 a0_22, .int .i64 a0_23, .bool a0_24, .string a0_25, .int .i64 a0_26], .slice A1 l1.length c1] w fun e w' => e = .returned (.bool r) ∧ Below w.heap.size w w' :=
 Refl.EntOK.use (laws_FnExactBrokenBy.ok k) (a0_0, a0_1, a0_2, a0_3, a0_4, a0_5, a0_6, a0_7, a0_8, a0_9, a0_10, a0_11, a0_12, a0_13, a0_14, a0_15, a0_16, a0_17, a0_18, a0_19, a0_20, a0_21, a0_22, a0_23, a0_24, a0_25, a0_26, l1) r h (vals := [.agg #[.int .i64 a0_0, .int .i64 a0_1, .int .i64 a0_2, .int .i64 a0_3, .int .i64 a0_4, .bool a0_5, .int .i64 a0_6, .int .i64 a0_7, .int .i64 a0_8, .int .i64 a0_9, .bool a0_10, .string a0_11, .int .i64 a0_12, .bool a0_13, .int .i64 a0_14, .int .i64 a0_15, .int .i64 a0_16, .int .i64 a0_17, .int .i64 a0_18, .bool a0_19, .int .i64 a0_20, .int .i64 a0_21, .int .i64 a0_22, .int .i64 a0_23, .bool a0_24, .string a0_25, .int .i64 a0_26], .slice A1 l1.length c1]) (by kernel_rfl) (by kernel_rfl) ⟨Refl.flat_av (by kernel_rfl), row_of (k114) rk114 (fun _ _ _ h => k114_open h) rfl hr1 hc1, trivial⟩ (by kernel_rfl)

end Go.Proofs.YtcicpmhcmlfhbaaGreatDoor.PA
