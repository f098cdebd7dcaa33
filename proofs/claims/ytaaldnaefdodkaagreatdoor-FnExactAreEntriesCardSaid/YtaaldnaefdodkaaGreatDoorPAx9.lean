-- Written by a program of this session (wip/tools/myprint.py). Not trusted: Lean checks it.
import Derived.Test.YtaaldnaefdodkaaGreatDoorCtx
import Derived.Test.YtaaldnaefdodkaaGreatDoorPAx4
import Derived.Test.YtaaldnaefdodkaaGreatDoorPAx5
import Derived.Test.YtaaldnaefdodkaaGreatDoorPAx6
import Derived.Test.YtaaldnaefdodkaaGreatDoorPAx8
namespace Go.Proofs.YtaaldnaefdodkaaGreatDoor.PA
open Go.RowKit Go.Proofs.YtaaldnaefdodkaaGreatDoorW.PrintWords Go.Proofs.YtaaldnaefdodkaaGreatDoorW.PrintLast Go.Proofs.YtaaldnaefdodkaaGreatDoorW.PrintMore
attribute [local go_sem] max2_int min2_int max_two min_two max_three min_three max_four min_four   -- for this text's walks alone
set_option linter.unusedVariables false
set_option linter.unusedSimpArgs false

/-! ### laws_eqEntry: function 35 -/

def laws_eqEntry.f (a0_0 : ByteArray) (a0_1 : Int) (a0_2 : Int) (a0_3 : Int) (a0_4 : Int) (a0_5 : Int) (a0_6 : Bool) (a0_7 : Int) (a0_8 : Int) (a0_9 : Int) (a0_10 : Int) (a0_11 : Bool) (a0_12 : ByteArray) (a0_13 : Int) (a0_14 : Bool) (a0_15 : Int) (a0_16 : Int) (a0_17 : Int) (a0_18 : Int) (a0_19 : Int) (a0_20 : Bool) (a0_21 : Int) (a0_22 : Int) (a0_23 : Int) (a0_24 : Int) (a0_25 : Bool) (a0_26 : ByteArray) (a0_27 : Int) (a0_28 : Int) (a0_29 : Int) (a1_0 : ByteArray) (a1_1 : Int) (a1_2 : Int) (a1_3 : Int) (a1_4 : Int) (a1_5 : Int) (a1_6 : Bool) (a1_7 : Int) (a1_8 : Int) (a1_9 : Int) (a1_10 : Int) (a1_11 : Bool) (a1_12 : ByteArray) (a1_13 : Int) (a1_14 : Bool) (a1_15 : Int) (a1_16 : Int) (a1_17 : Int) (a1_18 : Int) (a1_19 : Int) (a1_20 : Bool) (a1_21 : Int) (a1_22 : Int) (a1_23 : Int) (a1_24 : Int) (a1_25 : Bool) (a1_26 : ByteArray) (a1_27 : Int) (a1_28 : Int) (a1_29 : Int) : Option (Bool) := if a0_0.toList = a1_0.toList then ((laws_eqSign.f a0_1 a0_2 a0_3 a0_4 a0_5 a0_6 a0_7 a0_8 a0_9 a0_10 a0_11 a0_12 a0_13 a0_14 a0_15 a0_16 a0_17 a0_18 a0_19 a0_20 a0_21 a0_22 a0_23 a0_24 a0_25 a0_26 a0_27 a1_1 a1_2 a1_3 a1_4 a1_5 a1_6 a1_7 a1_8 a1_9 a1_10 a1_11 a1_12 a1_13 a1_14 a1_15 a1_16 a1_17 a1_18 a1_19 a1_20 a1_21 a1_22 a1_23 a1_24 a1_25 a1_26 a1_27).bind fun t457 => (if t457 = true then (if a0_28 = a1_28 then (if a0_29 = a1_29 then (some true) else (some false)) else (some false)) else (some false))) else (some false)

def laws_eqEntry.e (k : Nat) : Refl.Ent G := ⟨35, [(.agg gL2), (.agg gL2)], .one (.c .bool), fun x => laws_eqEntry.f x.1 x.2.1 x.2.2.1 x.2.2.2.1 x.2.2.2.2.1 x.2.2.2.2.2.1 x.2.2.2.2.2.2.1 x.2.2.2.2.2.2.2.1 x.2.2.2.2.2.2.2.2.1 x.2.2.2.2.2.2.2.2.2.1 x.2.2.2.2.2.2.2.2.2.2.1 x.2.2.2.2.2.2.2.2.2.2.2.1 x.2.2.2.2.2.2.2.2.2.2.2.2.1 x.2.2.2.2.2.2.2.2.2.2.2.2.2.1 x.2.2.2.2.2.2.2.2.2.2.2.2.2.2.1 x.2.2.2.2.2.2.2.2.2.2.2.2.2.2.2.1 x.2.2.2.2.2.2.2.2.2.2.2.2.2.2.2.2.1 x.2.2.2.2.2.2.2.2.2.2.2.2.2.2.2.2.2.1 x.2.2.2.2.2.2.2.2.2.2.2.2.2.2.2.2.2.2.1 x.2.2.2.2.2.2.2.2.2.2.2.2.2.2.2.2.2.2.2.1 x.2.2.2.2.2.2.2.2.2.2.2.2.2.2.2.2.2.2.2.2.1 x.2.2.2.2.2.2.2.2.2.2.2.2.2.2.2.2.2.2.2.2.2.1 x.2.2.2.2.2.2.2.2.2.2.2.2.2.2.2.2.2.2.2.2.2.2.1 x.2.2.2.2.2.2.2.2.2.2.2.2.2.2.2.2.2.2.2.2.2.2.2.1 x.2.2.2.2.2.2.2.2.2.2.2.2.2.2.2.2.2.2.2.2.2.2.2.2.1 x.2.2.2.2.2.2.2.2.2.2.2.2.2.2.2.2.2.2.2.2.2.2.2.2.2.1 x.2.2.2.2.2.2.2.2.2.2.2.2.2.2.2.2.2.2.2.2.2.2.2.2.2.2.1 x.2.2.2.2.2.2.2.2.2.2.2.2.2.2.2.2.2.2.2.2.2.2.2.2.2.2.2.1 x.2.2.2.2.2.2.2.2.2.2.2.2.2.2.2.2.2.2.2.2.2.2.2.2.2.2.2.2.1 x.2.2.2.2.2.2.2.2.2.2.2.2.2.2.2.2.2.2.2.2.2.2.2.2.2.2.2.2.2.1 x.2.2.2.2.2.2.2.2.2.2.2.2.2.2.2.2.2.2.2.2.2.2.2.2.2.2.2.2.2.2.1 x.2.2.2.2.2.2.2.2.2.2.2.2.2.2.2.2.2.2.2.2.2.2.2.2.2.2.2.2.2.2.2.1 x.2.2.2.2.2.2.2.2.2.2.2.2.2.2.2.2.2.2.2.2.2.2.2.2.2.2.2.2.2.2.2.2.1 x.2.2.2.2.2.2.2.2.2.2.2.2.2.2.2.2.2.2.2.2.2.2.2.2.2.2.2.2.2.2.2.2.2.1 x.2.2.2.2.2.2.2.2.2.2.2.2.2.2.2.2.2.2.2.2.2.2.2.2.2.2.2.2.2.2.2.2.2.2.1 x.2.2.2.2.2.2.2.2.2.2.2.2.2.2.2.2.2.2.2.2.2.2.2.2.2.2.2.2.2.2.2.2.2.2.2.1 x.2.2.2.2.2.2.2.2.2.2.2.2.2.2.2.2.2.2.2.2.2.2.2.2.2.2.2.2.2.2.2.2.2.2.2.2.1 x.2.2.2.2.2.2.2.2.2.2.2.2.2.2.2.2.2.2.2.2.2.2.2.2.2.2.2.2.2.2.2.2.2.2.2.2.2.1 x.2.2.2.2.2.2.2.2.2.2.2.2.2.2.2.2.2.2.2.2.2.2.2.2.2.2.2.2.2.2.2.2.2.2.2.2.2.2.1 x.2.2.2.2.2.2.2.2.2.2.2.2.2.2.2.2.2.2.2.2.2.2.2.2.2.2.2.2.2.2.2.2.2.2.2.2.2.2.2.1 x.2.2.2.2.2.2.2.2.2.2.2.2.2.2.2.2.2.2.2.2.2.2.2.2.2.2.2.2.2.2.2.2.2.2.2.2.2.2.2.2.1 x.2.2.2.2.2.2.2.2.2.2.2.2.2.2.2.2.2.2.2.2.2.2.2.2.2.2.2.2.2.2.2.2.2.2.2.2.2.2.2.2.2.1 x.2.2.2.2.2.2.2.2.2.2.2.2.2.2.2.2.2.2.2.2.2.2.2.2.2.2.2.2.2.2.2.2.2.2.2.2.2.2.2.2.2.2.1 x.2.2.2.2.2.2.2.2.2.2.2.2.2.2.2.2.2.2.2.2.2.2.2.2.2.2.2.2.2.2.2.2.2.2.2.2.2.2.2.2.2.2.2.1 x.2.2.2.2.2.2.2.2.2.2.2.2.2.2.2.2.2.2.2.2.2.2.2.2.2.2.2.2.2.2.2.2.2.2.2.2.2.2.2.2.2.2.2.2.1 x.2.2.2.2.2.2.2.2.2.2.2.2.2.2.2.2.2.2.2.2.2.2.2.2.2.2.2.2.2.2.2.2.2.2.2.2.2.2.2.2.2.2.2.2.2.1 x.2.2.2.2.2.2.2.2.2.2.2.2.2.2.2.2.2.2.2.2.2.2.2.2.2.2.2.2.2.2.2.2.2.2.2.2.2.2.2.2.2.2.2.2.2.2.1 x.2.2.2.2.2.2.2.2.2.2.2.2.2.2.2.2.2.2.2.2.2.2.2.2.2.2.2.2.2.2.2.2.2.2.2.2.2.2.2.2.2.2.2.2.2.2.2.1 x.2.2.2.2.2.2.2.2.2.2.2.2.2.2.2.2.2.2.2.2.2.2.2.2.2.2.2.2.2.2.2.2.2.2.2.2.2.2.2.2.2.2.2.2.2.2.2.2.1 x.2.2.2.2.2.2.2.2.2.2.2.2.2.2.2.2.2.2.2.2.2.2.2.2.2.2.2.2.2.2.2.2.2.2.2.2.2.2.2.2.2.2.2.2.2.2.2.2.2.1 x.2.2.2.2.2.2.2.2.2.2.2.2.2.2.2.2.2.2.2.2.2.2.2.2.2.2.2.2.2.2.2.2.2.2.2.2.2.2.2.2.2.2.2.2.2.2.2.2.2.2.1 x.2.2.2.2.2.2.2.2.2.2.2.2.2.2.2.2.2.2.2.2.2.2.2.2.2.2.2.2.2.2.2.2.2.2.2.2.2.2.2.2.2.2.2.2.2.2.2.2.2.2.2.1 x.2.2.2.2.2.2.2.2.2.2.2.2.2.2.2.2.2.2.2.2.2.2.2.2.2.2.2.2.2.2.2.2.2.2.2.2.2.2.2.2.2.2.2.2.2.2.2.2.2.2.2.2.1 x.2.2.2.2.2.2.2.2.2.2.2.2.2.2.2.2.2.2.2.2.2.2.2.2.2.2.2.2.2.2.2.2.2.2.2.2.2.2.2.2.2.2.2.2.2.2.2.2.2.2.2.2.2.1 x.2.2.2.2.2.2.2.2.2.2.2.2.2.2.2.2.2.2.2.2.2.2.2.2.2.2.2.2.2.2.2.2.2.2.2.2.2.2.2.2.2.2.2.2.2.2.2.2.2.2.2.2.2.2.1 x.2.2.2.2.2.2.2.2.2.2.2.2.2.2.2.2.2.2.2.2.2.2.2.2.2.2.2.2.2.2.2.2.2.2.2.2.2.2.2.2.2.2.2.2.2.2.2.2.2.2.2.2.2.2.2.1 x.2.2.2.2.2.2.2.2.2.2.2.2.2.2.2.2.2.2.2.2.2.2.2.2.2.2.2.2.2.2.2.2.2.2.2.2.2.2.2.2.2.2.2.2.2.2.2.2.2.2.2.2.2.2.2.2.1 x.2.2.2.2.2.2.2.2.2.2.2.2.2.2.2.2.2.2.2.2.2.2.2.2.2.2.2.2.2.2.2.2.2.2.2.2.2.2.2.2.2.2.2.2.2.2.2.2.2.2.2.2.2.2.2.2.2.1 x.2.2.2.2.2.2.2.2.2.2.2.2.2.2.2.2.2.2.2.2.2.2.2.2.2.2.2.2.2.2.2.2.2.2.2.2.2.2.2.2.2.2.2.2.2.2.2.2.2.2.2.2.2.2.2.2.2.2.1 x.2.2.2.2.2.2.2.2.2.2.2.2.2.2.2.2.2.2.2.2.2.2.2.2.2.2.2.2.2.2.2.2.2.2.2.2.2.2.2.2.2.2.2.2.2.2.2.2.2.2.2.2.2.2.2.2.2.2.2⟩
theorem laws_eqEntry.ok (k : Nat) : Refl.EntOK Tryz.prog (laws_eqEntry.e k) := Refl.ent_ok 1000000 k GC (fun k => [laws_eqSign.e k]) (fun k => ⟨laws_eqSign.ok k, trivial⟩) Tryz.func35 (by kernel_rfl) [] (ps := []) (by kernel_rfl) trivial (fun x => by kernel_rfl)

/-! ### laws_eqEntryS: function 11 -/

def laws_eqEntryS.l0 : Nat → List (S71) → List (S71) → Int → Option (Bool)
  | 0, _, _, _ => none
  | k + 1, x0, x1, x5 => if x5 < (x0.length : Int) then (if 0 ≤ x5 then (if x5 < (x0.length : Int) then (if 0 ≤ x5 then (if x5 < (x1.length : Int) then ((laws_eqEntry.f ((rd_T71 x0 x5).f0) ((rd_T71 x0 x5).f1.f0.f0.f0) ((rd_T71 x0 x5).f1.f0.f0.f1) ((rd_T71 x0 x5).f1.f0.f0.f2) ((rd_T71 x0 x5).f1.f0.f0.f3) ((rd_T71 x0 x5).f1.f0.f0.f4) ((rd_T71 x0 x5).f1.f0.f0.f5) ((rd_T71 x0 x5).f1.f0.f1.f0) ((rd_T71 x0 x5).f1.f0.f1.f1) ((rd_T71 x0 x5).f1.f0.f2.f0) ((rd_T71 x0 x5).f1.f0.f2.f1) ((rd_T71 x0 x5).f1.f0.f2.f2) ((rd_T71 x0 x5).f1.f0.f3.f0) ((rd_T71 x0 x5).f1.f0.f3.f1) ((rd_T71 x0 x5).f1.f1) ((rd_T71 x0 x5).f1.f2.f0.f0) ((rd_T71 x0 x5).f1.f2.f0.f1) ((rd_T71 x0 x5).f1.f2.f0.f2) ((rd_T71 x0 x5).f1.f2.f0.f3) ((rd_T71 x0 x5).f1.f2.f0.f4) ((rd_T71 x0 x5).f1.f2.f0.f5) ((rd_T71 x0 x5).f1.f2.f1.f0) ((rd_T71 x0 x5).f1.f2.f1.f1) ((rd_T71 x0 x5).f1.f2.f2.f0) ((rd_T71 x0 x5).f1.f2.f2.f1) ((rd_T71 x0 x5).f1.f2.f2.f2) ((rd_T71 x0 x5).f1.f2.f3.f0) ((rd_T71 x0 x5).f1.f2.f3.f1) ((rd_T71 x0 x5).f2) ((rd_T71 x0 x5).f3) ((rd_T71 x1 x5).f0) ((rd_T71 x1 x5).f1.f0.f0.f0) ((rd_T71 x1 x5).f1.f0.f0.f1) ((rd_T71 x1 x5).f1.f0.f0.f2) ((rd_T71 x1 x5).f1.f0.f0.f3) ((rd_T71 x1 x5).f1.f0.f0.f4) ((rd_T71 x1 x5).f1.f0.f0.f5) ((rd_T71 x1 x5).f1.f0.f1.f0) ((rd_T71 x1 x5).f1.f0.f1.f1) ((rd_T71 x1 x5).f1.f0.f2.f0) ((rd_T71 x1 x5).f1.f0.f2.f1) ((rd_T71 x1 x5).f1.f0.f2.f2) ((rd_T71 x1 x5).f1.f0.f3.f0) ((rd_T71 x1 x5).f1.f0.f3.f1) ((rd_T71 x1 x5).f1.f1) ((rd_T71 x1 x5).f1.f2.f0.f0) ((rd_T71 x1 x5).f1.f2.f0.f1) ((rd_T71 x1 x5).f1.f2.f0.f2) ((rd_T71 x1 x5).f1.f2.f0.f3) ((rd_T71 x1 x5).f1.f2.f0.f4) ((rd_T71 x1 x5).f1.f2.f0.f5) ((rd_T71 x1 x5).f1.f2.f1.f0) ((rd_T71 x1 x5).f1.f2.f1.f1) ((rd_T71 x1 x5).f1.f2.f2.f0) ((rd_T71 x1 x5).f1.f2.f2.f1) ((rd_T71 x1 x5).f1.f2.f2.f2) ((rd_T71 x1 x5).f1.f2.f3.f0) ((rd_T71 x1 x5).f1.f2.f3.f1) ((rd_T71 x1 x5).f2) ((rd_T71 x1 x5).f3)).bind fun t460 => (if t460 = true then (laws_eqEntryS.l0 k x0 x1 (wrap64 (x5 + 1))) else (some false))) else (none)) else (none)) else (none)) else (none)) else (some true)

def laws_eqEntryS.f (k : Nat) (l0 : List (S71)) (l1 : List (S71)) : Option (Bool) := if (l0.length : Int) = (l1.length : Int) then (laws_eqEntryS.l0 k l0 l1 0) else (some false)

theorem laws_eqEntryS.mono_l : ∀ k, (∀ y0 y1 y2, LeO (laws_eqEntryS.l0 k y0 y1 y2) (laws_eqEntryS.l0 (k + 1) y0 y1 y2))
  | 0 => fun _ _ _ r h => by simp [laws_eqEntryS.l0] at h
  | k + 1 => by
    have ih0 := laws_eqEntryS.mono_l k
    · intro y0 y1 y2
      unfold laws_eqEntryS.l0
      repeat' first
      | (with_reducible exact ih0 _ _ _)
      | (with_reducible exact LeO.refl _)
      | (with_reducible exact LeO.none _)
      | (with_reducible refine LeO.ite ?_ ?_)
      | (with_reducible refine LeO.bind ?_ (fun _ => ?_))
      | exact ih0 _ _ _
      | exact LeO.none _
      | refine LeO.ite ?_ ?_
      | refine LeO.bind ?_ (fun _ => ?_)

theorem laws_eqEntryS.mono : ∀ a0 a1 k, LeO (laws_eqEntryS.f k a0 a1) (laws_eqEntryS.f (k + 1) a0 a1) := by
  intro a0 a1 k
  have ih0 := laws_eqEntryS.mono_l k
  unfold laws_eqEntryS.f
  repeat' first
      | (with_reducible exact ih0 _ _ _)
      | (with_reducible exact LeO.refl _)
      | (with_reducible exact LeO.none _)
      | (with_reducible refine LeO.ite ?_ ?_)
      | (with_reducible refine LeO.bind ?_ (fun _ => ?_))
      | exact ih0 _ _ _
      | exact LeO.none _
      | refine LeO.ite ?_ ?_
      | refine LeO.bind ?_ (fun _ => ?_)

def laws_eqEntryS.e (k : Nat) : Refl.Ent G := ⟨11, [(.c (.row 71 false)), (.c (.row 71 false))], .one (.c .bool), fun x => laws_eqEntryS.f k x.1 x.2⟩
def laws_eqEntryS.pl0 : Refl.Pn G (Refl.PT G (laws_eqEntryS.e 0).ol) := ⟨true, 0, ⟨[(0, .v (.c (.row 71 false))), (1, .v (.c (.row 71 false))), (5, .v (.c li)), (4, .k (Value.bool false))], []⟩, fun k x => laws_eqEntryS.l0 k x.1 x.2.1 x.2.2⟩
theorem laws_eqEntryS.ok (k : Nat) : Refl.EntOK Tryz.prog (laws_eqEntryS.e k) := Refl.ent_ok 1000000 k GC (fun k => [laws_eqEntry.e k]) (fun k => ⟨laws_eqEntry.ok k, trivial⟩) Tryz.func11 (by kernel_rfl) [laws_eqEntryS.pl0] (ps := [laws_eqEntryS.pl0]) (by kernel_rfl) ⟨⟨fun x => by kernel_rfl, fun k x => by kernel_rfl⟩, trivial⟩ (fun x => by kernel_rfl)

/-! ### laws_FnExactAreEntries: function 3 -/

def laws_FnExactAreEntries.f (k : Nat) (l0 : List (S62)) : Option (Bool) := (laws_szEntryS.f k l0 1048576).bind fun t461 => (if t461 < 0 then (some true) else ((laws_toEntryS.f k l0).bind fun t462 => ((spec_AreEntries.f k t462).bind fun t465 => ((laws_toEntryS.f k l0).bind fun t466 => ((impl_AreEntries.f k t466).bind fun t469 => (if ((t469 == t465) = true) then ((laws_toEntryS.f k l0).bind fun t470 => ((laws_eqEntryS.f k t466 t470).bind fun t473 => (if t473 = true then (some true) else (some false)))) else (some false)))))))

theorem laws_FnExactAreEntries.mono : ∀ a0 k, LeO (laws_FnExactAreEntries.f k a0) (laws_FnExactAreEntries.f (k + 1) a0) := by
  intro a0 k
  unfold laws_FnExactAreEntries.f
  repeat' first
      | (with_reducible exact impl_AreEntries.mono _ _)
      | (with_reducible exact laws_eqEntryS.mono _ _ _)
      | (with_reducible exact laws_szEntryS.mono _ _ _)
      | (with_reducible exact laws_toEntryS.mono _ _)
      | (with_reducible exact spec_AreEntries.mono _ _)
      | (with_reducible exact LeO.refl _)
      | (with_reducible exact LeO.none _)
      | (with_reducible refine LeO.ite ?_ ?_)
      | (with_reducible refine LeO.bind ?_ (fun _ => ?_))
      | exact impl_AreEntries.mono _ _
      | exact laws_eqEntryS.mono _ _ _
      | exact laws_szEntryS.mono _ _ _
      | exact laws_toEntryS.mono _ _
      | exact spec_AreEntries.mono _ _
      | exact LeO.none _
      | refine LeO.ite ?_ ?_
      | refine LeO.bind ?_ (fun _ => ?_)

def laws_FnExactAreEntries.e (k : Nat) : Refl.Ent G := ⟨3, [(.c (.row 62 false))], .one (.c .bool), fun x => laws_FnExactAreEntries.f k x⟩
theorem laws_FnExactAreEntries.ok (k : Nat) : Refl.EntOK Tryz.prog (laws_FnExactAreEntries.e k) := Refl.ent_ok 1000000 k GC (fun k => [laws_szEntryS.e k, laws_toEntryS.e k, spec_AreEntries.e k, impl_AreEntries.e k, laws_eqEntryS.e k]) (fun k => ⟨laws_szEntryS.ok k, laws_toEntryS.ok k, spec_AreEntries.ok k, impl_AreEntries.ok k, laws_eqEntryS.ok k, trivial⟩) Tryz.func3 (by kernel_rfl) [] (ps := []) (by kernel_rfl) trivial (fun x => by kernel_rfl)

theorem laws_FnExactAreEntries.calls (k : Nat) (A0 : Option Addr) (c0 : Nat) (l0 : List (S62)) (r : Bool) (w : World) (hr0 : Kd.C k62 w A0 l0.length l0) (hc0 : l0.length ≤ c0) (h : laws_FnExactAreEntries.f k l0 = some r) :
    Calls Tryz.prog 3 #[.slice A0 l0.length c0] w fun e w' => e = .returned (.bool r) ∧ Below w.heap.size w w' :=
 Refl.EntOK.use (laws_FnExactAreEntries.ok k) l0 r h (vals := [.slice A0 l0.length c0]) (by kernel_rfl) (by kernel_rfl) ⟨row_of (k62) rk62 (fun _ _ _ h => k62_open h) rfl hr0 hc0, trivial⟩ (by kernel_rfl)

end Go.Proofs.YtaaldnaefdodkaaGreatDoor.PA
