-- Written by a program of this session (wip/tools/myprint.py). Not trusted: Lean checks it.
import Derived.Test.YtojfncpjgpklhaaGreatDoorCtx
import Derived.Test.YtojfncpjgpklhaaGreatDoorPAx6
import Derived.Test.YtojfncpjgpklhaaGreatDoorPAx7
namespace Go.Proofs.YtojfncpjgpklhaaGreatDoor.PA
open Go.RowKit Go.Proofs.YtojfncpjgpklhaaGreatDoorW.PrintWords Go.Proofs.YtojfncpjgpklhaaGreatDoorW.PrintLast Go.Proofs.YtojfncpjgpklhaaGreatDoorW.PrintMore
attribute [local go_sem] max2_int min2_int max_two min_two max_three min_three max_four min_four   -- for this text's walks alone
set_option linter.unusedVariables false
set_option linter.unusedSimpArgs false

/-! ### laws_szSignS: function 13 -/

def laws_szSignS.l0 : Nat → List (S33) → Int → Int → Option (Int)
  | 0, _, _, _ => none
  | k + 1, x0, x1, x5 => if x5 < (x0.length : Int) then (if 0 ≤ x5 then (if x5 < (x0.length : Int) then ((laws_szSign.f ((rd_T33 x0 x5).f0.f0.f0) ((rd_T33 x0 x5).f0.f0.f1) ((rd_T33 x0 x5).f0.f0.f2) ((rd_T33 x0 x5).f0.f0.f3) ((rd_T33 x0 x5).f0.f0.f4) ((rd_T33 x0 x5).f0.f0.f5) ((rd_T33 x0 x5).f0.f1.f0) ((rd_T33 x0 x5).f0.f1.f1) ((rd_T33 x0 x5).f0.f2.f0) ((rd_T33 x0 x5).f0.f2.f1) ((rd_T33 x0 x5).f0.f2.f2) ((rd_T33 x0 x5).f0.f3.f0) ((rd_T33 x0 x5).f0.f3.f1) ((rd_T33 x0 x5).f1) ((rd_T33 x0 x5).f2.f0.f0) ((rd_T33 x0 x5).f2.f0.f1) ((rd_T33 x0 x5).f2.f0.f2) ((rd_T33 x0 x5).f2.f0.f3) ((rd_T33 x0 x5).f2.f0.f4) ((rd_T33 x0 x5).f2.f0.f5) ((rd_T33 x0 x5).f2.f1.f0) ((rd_T33 x0 x5).f2.f1.f1) ((rd_T33 x0 x5).f2.f2.f0) ((rd_T33 x0 x5).f2.f2.f1) ((rd_T33 x0 x5).f2.f2.f2) ((rd_T33 x0 x5).f2.f3.f0) ((rd_T33 x0 x5).f2.f3.f1) x1).bind fun t712 => (if t712 < 0 then (some (-1)) else (laws_szSignS.l0 k x0 t712 (wrap64 (x5 + 1))))) else (none)) else (none)) else (some x1)

def laws_szSignS.f (k : Nat) (l0 : List (S33)) (a1 : Int) : Option (Int) := if (wrap64 (a1 - (l0.length : Int))) < 0 then (some (-1)) else (laws_szSignS.l0 k l0 (wrap64 (a1 - (l0.length : Int))) 0)

theorem laws_szSignS.mono_l : ∀ k, (∀ y0 y1 y2, LeO (laws_szSignS.l0 k y0 y1 y2) (laws_szSignS.l0 (k + 1) y0 y1 y2))
  | 0 => fun _ _ _ r h => by simp [laws_szSignS.l0] at h
  | k + 1 => by
    have ih0 := laws_szSignS.mono_l k
    · intro y0 y1 y2
      unfold laws_szSignS.l0
      repeat' first
      | (with_reducible exact ih0 _ _ _)
      | (with_reducible exact LeO.refl _)
      | (with_reducible exact LeO.none _)
      | (with_reducible refine LeO.ite ?_ ?_)
      | (with_reducible refine LeO.bind ?_ (fun _ => ?_))
      | exact ih0 _ _ _
      | exact LeO.none _
      | refine LeO.ite ?_ ?_
      | refine LeO.bind ?_ (fun _ => ?_)

theorem laws_szSignS.mono : ∀ a0 a1 k, LeO (laws_szSignS.f k a0 a1) (laws_szSignS.f (k + 1) a0 a1) := by
  intro a0 a1 k
  have ih0 := laws_szSignS.mono_l k
  unfold laws_szSignS.f
  repeat' first
      | (with_reducible exact ih0 _ _ _)
      | (with_reducible exact LeO.refl _)
      | (with_reducible exact LeO.none _)
      | (with_reducible refine LeO.ite ?_ ?_)
      | (with_reducible refine LeO.bind ?_ (fun _ => ?_))
      | exact ih0 _ _ _
      | exact LeO.none _
      | refine LeO.ite ?_ ?_
      | refine LeO.bind ?_ (fun _ => ?_)

def laws_szSignS.e (k : Nat) : Refl.Ent G := ⟨13, [(.c (.row 33 false)), (.c li)], .one (.c li), fun x => laws_szSignS.f k x.1 x.2⟩
def laws_szSignS.pl0 : Refl.Pn G (Refl.PT G (laws_szSignS.e 0).ol) := ⟨true, 0, ⟨[(0, .v (.c (.row 33 false))), (1, .v (.c li)), (5, .v (.c li)), (4, .k (Value.int IntKind.i64 0))], []⟩, fun k x => laws_szSignS.l0 k x.1 x.2.1 x.2.2⟩
theorem laws_szSignS.ok (k : Nat) : Refl.EntOK Tryz.prog (laws_szSignS.e k) := Refl.ent_ok 1000000 k GC (fun k => [laws_szSign.e k]) (fun k => ⟨laws_szSign.ok k, trivial⟩) Tryz.func13 (by kernel_rfl) [laws_szSignS.pl0] (ps := [laws_szSignS.pl0]) (by kernel_rfl) ⟨⟨fun x => by kernel_rfl, fun k x => by kernel_rfl⟩, trivial⟩ (fun x => by kernel_rfl)

/-! ### laws_toSignS: function 15 -/

def laws_toSignS.l0 : Nat → List (S33) → List (S44) → Int → Option ((List (S44)))
  | 0, _, _, _ => none
  | k + 1, x0, x3, x4 => if x4 < (x0.length : Int) then (if 0 ≤ x4 then (if x4 < (x0.length : Int) then ((laws_toSign.f ((rd_T33 x0 x4).f0.f0.f0) ((rd_T33 x0 x4).f0.f0.f1) ((rd_T33 x0 x4).f0.f0.f2) ((rd_T33 x0 x4).f0.f0.f3) ((rd_T33 x0 x4).f0.f0.f4) ((rd_T33 x0 x4).f0.f0.f5) ((rd_T33 x0 x4).f0.f1.f0) ((rd_T33 x0 x4).f0.f1.f1) ((rd_T33 x0 x4).f0.f2.f0) ((rd_T33 x0 x4).f0.f2.f1) ((rd_T33 x0 x4).f0.f2.f2) ((rd_T33 x0 x4).f0.f3.f0) ((rd_T33 x0 x4).f0.f3.f1) ((rd_T33 x0 x4).f1) ((rd_T33 x0 x4).f2.f0.f0) ((rd_T33 x0 x4).f2.f0.f1) ((rd_T33 x0 x4).f2.f0.f2) ((rd_T33 x0 x4).f2.f0.f3) ((rd_T33 x0 x4).f2.f0.f4) ((rd_T33 x0 x4).f2.f0.f5) ((rd_T33 x0 x4).f2.f1.f0) ((rd_T33 x0 x4).f2.f1.f1) ((rd_T33 x0 x4).f2.f2.f0) ((rd_T33 x0 x4).f2.f2.f1) ((rd_T33 x0 x4).f2.f2.f2) ((rd_T33 x0 x4).f2.f3.f0) ((rd_T33 x0 x4).f2.f3.f1)).bind fun bt717 => (if 0 ≤ x4 then (if x4 < (x3.length : Int) then (laws_toSignS.l0 k x0 (x3.set (x4 : Int).toNat (⟨(⟨(⟨bt717.1, bt717.2.1, bt717.2.2.1, bt717.2.2.2.1, bt717.2.2.2.2.1, bt717.2.2.2.2.2.1⟩ : S37), (⟨bt717.2.2.2.2.2.2.1, bt717.2.2.2.2.2.2.2.1⟩ : S38), (⟨bt717.2.2.2.2.2.2.2.2.1, bt717.2.2.2.2.2.2.2.2.2.1, bt717.2.2.2.2.2.2.2.2.2.2.1⟩ : S39), (⟨bt717.2.2.2.2.2.2.2.2.2.2.2.1, bt717.2.2.2.2.2.2.2.2.2.2.2.2.1⟩ : S40)⟩ : S42), bt717.2.2.2.2.2.2.2.2.2.2.2.2.2.1, (⟨(⟨bt717.2.2.2.2.2.2.2.2.2.2.2.2.2.2.1, bt717.2.2.2.2.2.2.2.2.2.2.2.2.2.2.2.1, bt717.2.2.2.2.2.2.2.2.2.2.2.2.2.2.2.2.1, bt717.2.2.2.2.2.2.2.2.2.2.2.2.2.2.2.2.2.1, bt717.2.2.2.2.2.2.2.2.2.2.2.2.2.2.2.2.2.2.1, bt717.2.2.2.2.2.2.2.2.2.2.2.2.2.2.2.2.2.2.2.1⟩ : S37), (⟨bt717.2.2.2.2.2.2.2.2.2.2.2.2.2.2.2.2.2.2.2.2.1, bt717.2.2.2.2.2.2.2.2.2.2.2.2.2.2.2.2.2.2.2.2.2.1⟩ : S38), (⟨bt717.2.2.2.2.2.2.2.2.2.2.2.2.2.2.2.2.2.2.2.2.2.2.1, bt717.2.2.2.2.2.2.2.2.2.2.2.2.2.2.2.2.2.2.2.2.2.2.2.1, bt717.2.2.2.2.2.2.2.2.2.2.2.2.2.2.2.2.2.2.2.2.2.2.2.2.1⟩ : S39), (⟨bt717.2.2.2.2.2.2.2.2.2.2.2.2.2.2.2.2.2.2.2.2.2.2.2.2.2.1, bt717.2.2.2.2.2.2.2.2.2.2.2.2.2.2.2.2.2.2.2.2.2.2.2.2.2.2⟩ : S40)⟩ : S42)⟩ : S44)) (wrap64 (x4 + 1))) else (none)) else (none))) else (none)) else (none)) else (some x3)

def laws_toSignS.f (k : Nat) (l0 : List (S33)) : Option ((List (S44))) := if 0 ≤ (l0.length : Int) then (if ((l0.length : Int) : Int).toNat ≤ 1213254209959 then (laws_toSignS.l0 k l0 (List.replicate ((l0.length : Int) : Int).toNat z44) 0) else (none)) else (none)

theorem laws_toSignS.mono_l : ∀ k, (∀ y0 y1 y2, LeO (laws_toSignS.l0 k y0 y1 y2) (laws_toSignS.l0 (k + 1) y0 y1 y2))
  | 0 => fun _ _ _ r h => by simp [laws_toSignS.l0] at h
  | k + 1 => by
    have ih0 := laws_toSignS.mono_l k
    · intro y0 y1 y2
      unfold laws_toSignS.l0
      repeat' first
      | (with_reducible exact ih0 _ _ _)
      | (with_reducible exact LeO.refl _)
      | (with_reducible exact LeO.none _)
      | (with_reducible refine LeO.ite ?_ ?_)
      | (with_reducible refine LeO.bind ?_ (fun _ => ?_))
      | exact ih0 _ _ _
      | exact LeO.none _
      | refine LeO.ite ?_ ?_
      | refine LeO.bind ?_ (fun _ => ?_)

theorem laws_toSignS.mono : ∀ a0 k, LeO (laws_toSignS.f k a0) (laws_toSignS.f (k + 1) a0) := by
  intro a0 k
  have ih0 := laws_toSignS.mono_l k
  unfold laws_toSignS.f
  repeat' first
      | (with_reducible exact ih0 _ _ _)
      | (with_reducible exact LeO.refl _)
      | (with_reducible exact LeO.none _)
      | (with_reducible refine LeO.ite ?_ ?_)
      | (with_reducible refine LeO.bind ?_ (fun _ => ?_))
      | exact ih0 _ _ _
      | exact LeO.none _
      | refine LeO.ite ?_ ?_
      | refine LeO.bind ?_ (fun _ => ?_)

def laws_toSignS.e (k : Nat) : Refl.Ent G := ⟨15, [(.c (.row 33 false))], .one (.c (.row 44 true)), fun x => laws_toSignS.f k x⟩
def laws_toSignS.pl0 : Refl.Pn G (Refl.PT G (laws_toSignS.e 0).ol) := ⟨true, 0, ⟨[(0, .v (.c (.row 33 false))), (3, .v (.c (.own 44))), (4, .v (.c li))], []⟩, fun k x => laws_toSignS.l0 k x.1 x.2.1 x.2.2⟩
theorem laws_toSignS.ok (k : Nat) : Refl.EntOK Tryz.prog (laws_toSignS.e k) := Refl.ent_ok 1000000 k GC (fun k => [laws_toSign.e k]) (fun k => ⟨laws_toSign.ok k, trivial⟩) Tryz.func15 (by kernel_rfl) [laws_toSignS.pl0] (ps := [laws_toSignS.pl0]) (by kernel_rfl) ⟨⟨fun x => by kernel_rfl, fun k x => by kernel_rfl⟩, trivial⟩ (fun x => by kernel_rfl)

/-! ### laws_eqShape: function 125 -/

def laws_eqShape.f (a0_0 : Int) (a0_1 : Int) (a0_2 : Int) (a0_3 : Int) (a0_4 : Int) (a0_5 : Bool) (a1_0 : Int) (a1_1 : Int) (a1_2 : Int) (a1_3 : Int) (a1_4 : Int) (a1_5 : Bool) : Option (Bool) := if a0_0 = a1_0 then (if a0_1 = a1_1 then (if a0_2 = a1_2 then (if a0_3 = a1_3 then (if a0_4 = a1_4 then (if ((a0_5 == a1_5) = true) then (some true) else (some false)) else (some false)) else (some false)) else (some false)) else (some false)) else (some false)

def laws_eqShape.e (k : Nat) : Refl.Ent G := ⟨125, [(.agg [li, li, li, li, li, .bool]), (.agg [li, li, li, li, li, .bool])], .one (.c .bool), fun x => laws_eqShape.f x.1 x.2.1 x.2.2.1 x.2.2.2.1 x.2.2.2.2.1 x.2.2.2.2.2.1 x.2.2.2.2.2.2.1 x.2.2.2.2.2.2.2.1 x.2.2.2.2.2.2.2.2.1 x.2.2.2.2.2.2.2.2.2.1 x.2.2.2.2.2.2.2.2.2.2.1 x.2.2.2.2.2.2.2.2.2.2.2⟩
theorem laws_eqShape.ok (k : Nat) : Refl.EntOK Tryz.prog (laws_eqShape.e k) := Refl.ent_ok 1000000 k GC (fun k => []) (fun k => trivial) Tryz.func125 (by kernel_rfl) [] (ps := []) (by kernel_rfl) trivial (fun x => by kernel_rfl)

/-! ### laws_eqOrient: function 126 -/

def laws_eqOrient.f (a0_0 : Int) (a0_1 : Int) (a1_0 : Int) (a1_1 : Int) : Option (Bool) := if a0_0 = a1_0 then (if a0_1 = a1_1 then (some true) else (some false)) else (some false)

def laws_eqOrient.e (k : Nat) : Refl.Ent G := ⟨126, [(.agg [li, li]), (.agg [li, li])], .one (.c .bool), fun x => laws_eqOrient.f x.1 x.2.1 x.2.2.1 x.2.2.2⟩
theorem laws_eqOrient.ok (k : Nat) : Refl.EntOK Tryz.prog (laws_eqOrient.e k) := Refl.ent_ok 1000000 k GC (fun k => []) (fun k => trivial) Tryz.func126 (by kernel_rfl) [] (ps := []) (by kernel_rfl) trivial (fun x => by kernel_rfl)

/-! ### laws_eqPlace: function 127 -/

def laws_eqPlace.f (a0_0 : Int) (a0_1 : Int) (a0_2 : Bool) (a1_0 : Int) (a1_1 : Int) (a1_2 : Bool) : Option (Bool) := if a0_0 = a1_0 then (if a0_1 = a1_1 then (if ((a0_2 == a1_2) = true) then (some true) else (some false)) else (some false)) else (some false)

def laws_eqPlace.e (k : Nat) : Refl.Ent G := ⟨127, [(.agg [li, li, .bool]), (.agg [li, li, .bool])], .one (.c .bool), fun x => laws_eqPlace.f x.1 x.2.1 x.2.2.1 x.2.2.2.1 x.2.2.2.2.1 x.2.2.2.2.2⟩
theorem laws_eqPlace.ok (k : Nat) : Refl.EntOK Tryz.prog (laws_eqPlace.e k) := Refl.ent_ok 1000000 k GC (fun k => []) (fun k => trivial) Tryz.func127 (by kernel_rfl) [] (ps := []) (by kernel_rfl) trivial (fun x => by kernel_rfl)

/-! ### laws_eqMove: function 128 -/

def laws_eqMove.f (a0_0 : ByteArray) (a0_1 : Int) (a1_0 : ByteArray) (a1_1 : Int) : Option (Bool) := if a0_0.toList = a1_0.toList then (if a0_1 = a1_1 then (some true) else (some false)) else (some false)

def laws_eqMove.e (k : Nat) : Refl.Ent G := ⟨128, [(.agg [.str, li]), (.agg [.str, li])], .one (.c .bool), fun x => laws_eqMove.f x.1 x.2.1 x.2.2.1 x.2.2.2⟩
theorem laws_eqMove.ok (k : Nat) : Refl.EntOK Tryz.prog (laws_eqMove.e k) := Refl.ent_ok 1000000 k GC (fun k => []) (fun k => trivial) Tryz.func128 (by kernel_rfl) [] (ps := []) (by kernel_rfl) trivial (fun x => by kernel_rfl)

/-! ### laws_eqHand: function 81 -/

def laws_eqHand.f (a0_0 : Int) (a0_1 : Int) (a0_2 : Int) (a0_3 : Int) (a0_4 : Int) (a0_5 : Bool) (a0_6 : Int) (a0_7 : Int) (a0_8 : Int) (a0_9 : Int) (a0_10 : Bool) (a0_11 : ByteArray) (a0_12 : Int) (a1_0 : Int) (a1_1 : Int) (a1_2 : Int) (a1_3 : Int) (a1_4 : Int) (a1_5 : Bool) (a1_6 : Int) (a1_7 : Int) (a1_8 : Int) (a1_9 : Int) (a1_10 : Bool) (a1_11 : ByteArray) (a1_12 : Int) : Option (Bool) := (laws_eqShape.f a0_0 a0_1 a0_2 a0_3 a0_4 a0_5 a1_0 a1_1 a1_2 a1_3 a1_4 a1_5).bind fun t755 => (if t755 = true then ((laws_eqOrient.f a0_6 a0_7 a1_6 a1_7).bind fun t756 => (if t756 = true then ((laws_eqPlace.f a0_8 a0_9 a0_10 a1_8 a1_9 a1_10).bind fun t757 => (if t757 = true then ((laws_eqMove.f a0_11 a0_12 a1_11 a1_12).bind fun t758 => (if t758 = true then (some true) else (some false))) else (some false))) else (some false))) else (some false))

def laws_eqHand.e (k : Nat) : Refl.Ent G := ⟨81, [(.agg gL0), (.agg gL0)], .one (.c .bool), fun x => laws_eqHand.f x.1 x.2.1 x.2.2.1 x.2.2.2.1 x.2.2.2.2.1 x.2.2.2.2.2.1 x.2.2.2.2.2.2.1 x.2.2.2.2.2.2.2.1 x.2.2.2.2.2.2.2.2.1 x.2.2.2.2.2.2.2.2.2.1 x.2.2.2.2.2.2.2.2.2.2.1 x.2.2.2.2.2.2.2.2.2.2.2.1 x.2.2.2.2.2.2.2.2.2.2.2.2.1 x.2.2.2.2.2.2.2.2.2.2.2.2.2.1 x.2.2.2.2.2.2.2.2.2.2.2.2.2.2.1 x.2.2.2.2.2.2.2.2.2.2.2.2.2.2.2.1 x.2.2.2.2.2.2.2.2.2.2.2.2.2.2.2.2.1 x.2.2.2.2.2.2.2.2.2.2.2.2.2.2.2.2.2.1 x.2.2.2.2.2.2.2.2.2.2.2.2.2.2.2.2.2.2.1 x.2.2.2.2.2.2.2.2.2.2.2.2.2.2.2.2.2.2.2.1 x.2.2.2.2.2.2.2.2.2.2.2.2.2.2.2.2.2.2.2.2.1 x.2.2.2.2.2.2.2.2.2.2.2.2.2.2.2.2.2.2.2.2.2.1 x.2.2.2.2.2.2.2.2.2.2.2.2.2.2.2.2.2.2.2.2.2.2.1 x.2.2.2.2.2.2.2.2.2.2.2.2.2.2.2.2.2.2.2.2.2.2.2.1 x.2.2.2.2.2.2.2.2.2.2.2.2.2.2.2.2.2.2.2.2.2.2.2.2.1 x.2.2.2.2.2.2.2.2.2.2.2.2.2.2.2.2.2.2.2.2.2.2.2.2.2⟩
theorem laws_eqHand.ok (k : Nat) : Refl.EntOK Tryz.prog (laws_eqHand.e k) := Refl.ent_ok 1000000 k GC (fun k => [laws_eqShape.e k, laws_eqOrient.e k, laws_eqPlace.e k, laws_eqMove.e k]) (fun k => ⟨laws_eqShape.ok k, laws_eqOrient.ok k, laws_eqPlace.ok k, laws_eqMove.ok k, trivial⟩) Tryz.func81 (by kernel_rfl) [] (ps := []) (by kernel_rfl) trivial (fun x => by kernel_rfl)

/-! ### laws_eqSign: function 45 -/

def laws_eqSign.f (a0_0 : Int) (a0_1 : Int) (a0_2 : Int) (a0_3 : Int) (a0_4 : Int) (a0_5 : Bool) (a0_6 : Int) (a0_7 : Int) (a0_8 : Int) (a0_9 : Int) (a0_10 : Bool) (a0_11 : ByteArray) (a0_12 : Int) (a0_13 : Bool) (a0_14 : Int) (a0_15 : Int) (a0_16 : Int) (a0_17 : Int) (a0_18 : Int) (a0_19 : Bool) (a0_20 : Int) (a0_21 : Int) (a0_22 : Int) (a0_23 : Int) (a0_24 : Bool) (a0_25 : ByteArray) (a0_26 : Int) (a1_0 : Int) (a1_1 : Int) (a1_2 : Int) (a1_3 : Int) (a1_4 : Int) (a1_5 : Bool) (a1_6 : Int) (a1_7 : Int) (a1_8 : Int) (a1_9 : Int) (a1_10 : Bool) (a1_11 : ByteArray) (a1_12 : Int) (a1_13 : Bool) (a1_14 : Int) (a1_15 : Int) (a1_16 : Int) (a1_17 : Int) (a1_18 : Int) (a1_19 : Bool) (a1_20 : Int) (a1_21 : Int) (a1_22 : Int) (a1_23 : Int) (a1_24 : Bool) (a1_25 : ByteArray) (a1_26 : Int) : Option (Bool) := (laws_eqHand.f a0_0 a0_1 a0_2 a0_3 a0_4 a0_5 a0_6 a0_7 a0_8 a0_9 a0_10 a0_11 a0_12 a1_0 a1_1 a1_2 a1_3 a1_4 a1_5 a1_6 a1_7 a1_8 a1_9 a1_10 a1_11 a1_12).bind fun t761 => (if t761 = true then (if ((a0_13 == a1_13) = true) then ((laws_eqHand.f a0_14 a0_15 a0_16 a0_17 a0_18 a0_19 a0_20 a0_21 a0_22 a0_23 a0_24 a0_25 a0_26 a1_14 a1_15 a1_16 a1_17 a1_18 a1_19 a1_20 a1_21 a1_22 a1_23 a1_24 a1_25 a1_26).bind fun t762 => (if t762 = true then (some true) else (some false))) else (some false)) else (some false))

def laws_eqSign.e (k : Nat) : Refl.Ent G := ⟨45, [(.agg gL1), (.agg gL1)], .one (.c .bool), fun x => laws_eqSign.f x.1 x.2.1 x.2.2.1 x.2.2.2.1 x.2.2.2.2.1 x.2.2.2.2.2.1 x.2.2.2.2.2.2.1 x.2.2.2.2.2.2.2.1 x.2.2.2.2.2.2.2.2.1 x.2.2.2.2.2.2.2.2.2.1 x.2.2.2.2.2.2.2.2.2.2.1 x.2.2.2.2.2.2.2.2.2.2.2.1 x.2.2.2.2.2.2.2.2.2.2.2.2.1 x.2.2.2.2.2.2.2.2.2.2.2.2.2.1 x.2.2.2.2.2.2.2.2.2.2.2.2.2.2.1 x.2.2.2.2.2.2.2.2.2.2.2.2.2.2.2.1 x.2.2.2.2.2.2.2.2.2.2.2.2.2.2.2.2.1 x.2.2.2.2.2.2.2.2.2.2.2.2.2.2.2.2.2.1 x.2.2.2.2.2.2.2.2.2.2.2.2.2.2.2.2.2.2.1 x.2.2.2.2.2.2.2.2.2.2.2.2.2.2.2.2.2.2.2.1 x.2.2.2.2.2.2.2.2.2.2.2.2.2.2.2.2.2.2.2.2.1 x.2.2.2.2.2.2.2.2.2.2.2.2.2.2.2.2.2.2.2.2.2.1 x.2.2.2.2.2.2.2.2.2.2.2.2.2.2.2.2.2.2.2.2.2.2.1 x.2.2.2.2.2.2.2.2.2.2.2.2.2.2.2.2.2.2.2.2.2.2.2.1 x.2.2.2.2.2.2.2.2.2.2.2.2.2.2.2.2.2.2.2.2.2.2.2.2.1 x.2.2.2.2.2.2.2.2.2.2.2.2.2.2.2.2.2.2.2.2.2.2.2.2.2.1 x.2.2.2.2.2.2.2.2.2.2.2.2.2.2.2.2.2.2.2.2.2.2.2.2.2.2.1 x.2.2.2.2.2.2.2.2.2.2.2.2.2.2.2.2.2.2.2.2.2.2.2.2.2.2.2.1 x.2.2.2.2.2.2.2.2.2.2.2.2.2.2.2.2.2.2.2.2.2.2.2.2.2.2.2.2.1 x.2.2.2.2.2.2.2.2.2.2.2.2.2.2.2.2.2.2.2.2.2.2.2.2.2.2.2.2.2.1 x.2.2.2.2.2.2.2.2.2.2.2.2.2.2.2.2.2.2.2.2.2.2.2.2.2.2.2.2.2.2.1 x.2.2.2.2.2.2.2.2.2.2.2.2.2.2.2.2.2.2.2.2.2.2.2.2.2.2.2.2.2.2.2.1 x.2.2.2.2.2.2.2.2.2.2.2.2.2.2.2.2.2.2.2.2.2.2.2.2.2.2.2.2.2.2.2.2.1 x.2.2.2.2.2.2.2.2.2.2.2.2.2.2.2.2.2.2.2.2.2.2.2.2.2.2.2.2.2.2.2.2.2.1 x.2.2.2.2.2.2.2.2.2.2.2.2.2.2.2.2.2.2.2.2.2.2.2.2.2.2.2.2.2.2.2.2.2.2.1 x.2.2.2.2.2.2.2.2.2.2.2.2.2.2.2.2.2.2.2.2.2.2.2.2.2.2.2.2.2.2.2.2.2.2.2.1 x.2.2.2.2.2.2.2.2.2.2.2.2.2.2.2.2.2.2.2.2.2.2.2.2.2.2.2.2.2.2.2.2.2.2.2.2.1 x.2.2.2.2.2.2.2.2.2.2.2.2.2.2.2.2.2.2.2.2.2.2.2.2.2.2.2.2.2.2.2.2.2.2.2.2.2.1 x.2.2.2.2.2.2.2.2.2.2.2.2.2.2.2.2.2.2.2.2.2.2.2.2.2.2.2.2.2.2.2.2.2.2.2.2.2.2.1 x.2.2.2.2.2.2.2.2.2.2.2.2.2.2.2.2.2.2.2.2.2.2.2.2.2.2.2.2.2.2.2.2.2.2.2.2.2.2.2.1 x.2.2.2.2.2.2.2.2.2.2.2.2.2.2.2.2.2.2.2.2.2.2.2.2.2.2.2.2.2.2.2.2.2.2.2.2.2.2.2.2.1 x.2.2.2.2.2.2.2.2.2.2.2.2.2.2.2.2.2.2.2.2.2.2.2.2.2.2.2.2.2.2.2.2.2.2.2.2.2.2.2.2.2.1 x.2.2.2.2.2.2.2.2.2.2.2.2.2.2.2.2.2.2.2.2.2.2.2.2.2.2.2.2.2.2.2.2.2.2.2.2.2.2.2.2.2.2.1 x.2.2.2.2.2.2.2.2.2.2.2.2.2.2.2.2.2.2.2.2.2.2.2.2.2.2.2.2.2.2.2.2.2.2.2.2.2.2.2.2.2.2.2.1 x.2.2.2.2.2.2.2.2.2.2.2.2.2.2.2.2.2.2.2.2.2.2.2.2.2.2.2.2.2.2.2.2.2.2.2.2.2.2.2.2.2.2.2.2.1 x.2.2.2.2.2.2.2.2.2.2.2.2.2.2.2.2.2.2.2.2.2.2.2.2.2.2.2.2.2.2.2.2.2.2.2.2.2.2.2.2.2.2.2.2.2.1 x.2.2.2.2.2.2.2.2.2.2.2.2.2.2.2.2.2.2.2.2.2.2.2.2.2.2.2.2.2.2.2.2.2.2.2.2.2.2.2.2.2.2.2.2.2.2.1 x.2.2.2.2.2.2.2.2.2.2.2.2.2.2.2.2.2.2.2.2.2.2.2.2.2.2.2.2.2.2.2.2.2.2.2.2.2.2.2.2.2.2.2.2.2.2.2.1 x.2.2.2.2.2.2.2.2.2.2.2.2.2.2.2.2.2.2.2.2.2.2.2.2.2.2.2.2.2.2.2.2.2.2.2.2.2.2.2.2.2.2.2.2.2.2.2.2.1 x.2.2.2.2.2.2.2.2.2.2.2.2.2.2.2.2.2.2.2.2.2.2.2.2.2.2.2.2.2.2.2.2.2.2.2.2.2.2.2.2.2.2.2.2.2.2.2.2.2.1 x.2.2.2.2.2.2.2.2.2.2.2.2.2.2.2.2.2.2.2.2.2.2.2.2.2.2.2.2.2.2.2.2.2.2.2.2.2.2.2.2.2.2.2.2.2.2.2.2.2.2.1 x.2.2.2.2.2.2.2.2.2.2.2.2.2.2.2.2.2.2.2.2.2.2.2.2.2.2.2.2.2.2.2.2.2.2.2.2.2.2.2.2.2.2.2.2.2.2.2.2.2.2.2.1 x.2.2.2.2.2.2.2.2.2.2.2.2.2.2.2.2.2.2.2.2.2.2.2.2.2.2.2.2.2.2.2.2.2.2.2.2.2.2.2.2.2.2.2.2.2.2.2.2.2.2.2.2.1 x.2.2.2.2.2.2.2.2.2.2.2.2.2.2.2.2.2.2.2.2.2.2.2.2.2.2.2.2.2.2.2.2.2.2.2.2.2.2.2.2.2.2.2.2.2.2.2.2.2.2.2.2.2⟩
theorem laws_eqSign.ok (k : Nat) : Refl.EntOK Tryz.prog (laws_eqSign.e k) := Refl.ent_ok 1000000 k GC (fun k => [laws_eqHand.e k]) (fun k => ⟨laws_eqHand.ok k, trivial⟩) Tryz.func45 (by kernel_rfl) [] (ps := []) (by kernel_rfl) trivial (fun x => by kernel_rfl)

/-! ### laws_eqSignS: function 17 -/

def laws_eqSignS.l0 : Nat → List (S44) → List (S44) → Int → Option (Bool)
  | 0, _, _, _ => none
  | k + 1, x0, x1, x5 => if x5 < (x0.length : Int) then (if 0 ≤ x5 then (if x5 < (x0.length : Int) then (if 0 ≤ x5 then (if x5 < (x1.length : Int) then ((laws_eqSign.f ((rd_T44 x0 x5).f0.f0.f0) ((rd_T44 x0 x5).f0.f0.f1) ((rd_T44 x0 x5).f0.f0.f2) ((rd_T44 x0 x5).f0.f0.f3) ((rd_T44 x0 x5).f0.f0.f4) ((rd_T44 x0 x5).f0.f0.f5) ((rd_T44 x0 x5).f0.f1.f0) ((rd_T44 x0 x5).f0.f1.f1) ((rd_T44 x0 x5).f0.f2.f0) ((rd_T44 x0 x5).f0.f2.f1) ((rd_T44 x0 x5).f0.f2.f2) ((rd_T44 x0 x5).f0.f3.f0) ((rd_T44 x0 x5).f0.f3.f1) ((rd_T44 x0 x5).f1) ((rd_T44 x0 x5).f2.f0.f0) ((rd_T44 x0 x5).f2.f0.f1) ((rd_T44 x0 x5).f2.f0.f2) ((rd_T44 x0 x5).f2.f0.f3) ((rd_T44 x0 x5).f2.f0.f4) ((rd_T44 x0 x5).f2.f0.f5) ((rd_T44 x0 x5).f2.f1.f0) ((rd_T44 x0 x5).f2.f1.f1) ((rd_T44 x0 x5).f2.f2.f0) ((rd_T44 x0 x5).f2.f2.f1) ((rd_T44 x0 x5).f2.f2.f2) ((rd_T44 x0 x5).f2.f3.f0) ((rd_T44 x0 x5).f2.f3.f1) ((rd_T44 x1 x5).f0.f0.f0) ((rd_T44 x1 x5).f0.f0.f1) ((rd_T44 x1 x5).f0.f0.f2) ((rd_T44 x1 x5).f0.f0.f3) ((rd_T44 x1 x5).f0.f0.f4) ((rd_T44 x1 x5).f0.f0.f5) ((rd_T44 x1 x5).f0.f1.f0) ((rd_T44 x1 x5).f0.f1.f1) ((rd_T44 x1 x5).f0.f2.f0) ((rd_T44 x1 x5).f0.f2.f1) ((rd_T44 x1 x5).f0.f2.f2) ((rd_T44 x1 x5).f0.f3.f0) ((rd_T44 x1 x5).f0.f3.f1) ((rd_T44 x1 x5).f1) ((rd_T44 x1 x5).f2.f0.f0) ((rd_T44 x1 x5).f2.f0.f1) ((rd_T44 x1 x5).f2.f0.f2) ((rd_T44 x1 x5).f2.f0.f3) ((rd_T44 x1 x5).f2.f0.f4) ((rd_T44 x1 x5).f2.f0.f5) ((rd_T44 x1 x5).f2.f1.f0) ((rd_T44 x1 x5).f2.f1.f1) ((rd_T44 x1 x5).f2.f2.f0) ((rd_T44 x1 x5).f2.f2.f1) ((rd_T44 x1 x5).f2.f2.f2) ((rd_T44 x1 x5).f2.f3.f0) ((rd_T44 x1 x5).f2.f3.f1)).bind fun t765 => (if t765 = true then (laws_eqSignS.l0 k x0 x1 (wrap64 (x5 + 1))) else (some false))) else (none)) else (none)) else (none)) else (none)) else (some true)

def laws_eqSignS.f (k : Nat) (l0 : List (S44)) (l1 : List (S44)) : Option (Bool) := if (l0.length : Int) = (l1.length : Int) then (laws_eqSignS.l0 k l0 l1 0) else (some false)

theorem laws_eqSignS.mono_l : ∀ k, (∀ y0 y1 y2, LeO (laws_eqSignS.l0 k y0 y1 y2) (laws_eqSignS.l0 (k + 1) y0 y1 y2))
  | 0 => fun _ _ _ r h => by simp [laws_eqSignS.l0] at h
  | k + 1 => by
    have ih0 := laws_eqSignS.mono_l k
    · intro y0 y1 y2
      unfold laws_eqSignS.l0
      repeat' first
      | (with_reducible exact ih0 _ _ _)
      | (with_reducible exact LeO.refl _)
      | (with_reducible exact LeO.none _)
      | (with_reducible refine LeO.ite ?_ ?_)
      | (with_reducible refine LeO.bind ?_ (fun _ => ?_))
      | exact ih0 _ _ _
      | exact LeO.none _
      | refine LeO.ite ?_ ?_
      | refine LeO.bind ?_ (fun _ => ?_)

theorem laws_eqSignS.mono : ∀ a0 a1 k, LeO (laws_eqSignS.f k a0 a1) (laws_eqSignS.f (k + 1) a0 a1) := by
  intro a0 a1 k
  have ih0 := laws_eqSignS.mono_l k
  unfold laws_eqSignS.f
  repeat' first
      | (with_reducible exact ih0 _ _ _)
      | (with_reducible exact LeO.refl _)
      | (with_reducible exact LeO.none _)
      | (with_reducible refine LeO.ite ?_ ?_)
      | (with_reducible refine LeO.bind ?_ (fun _ => ?_))
      | exact ih0 _ _ _
      | exact LeO.none _
      | refine LeO.ite ?_ ?_
      | refine LeO.bind ?_ (fun _ => ?_)

def laws_eqSignS.e (k : Nat) : Refl.Ent G := ⟨17, [(.c (.row 44 false)), (.c (.row 44 false))], .one (.c .bool), fun x => laws_eqSignS.f k x.1 x.2⟩
def laws_eqSignS.pl0 : Refl.Pn G (Refl.PT G (laws_eqSignS.e 0).ol) := ⟨true, 0, ⟨[(0, .v (.c (.row 44 false))), (1, .v (.c (.row 44 false))), (5, .v (.c li)), (4, .k (Value.bool false))], []⟩, fun k x => laws_eqSignS.l0 k x.1 x.2.1 x.2.2⟩
theorem laws_eqSignS.ok (k : Nat) : Refl.EntOK Tryz.prog (laws_eqSignS.e k) := Refl.ent_ok 1000000 k GC (fun k => [laws_eqSign.e k]) (fun k => ⟨laws_eqSign.ok k, trivial⟩) Tryz.func17 (by kernel_rfl) [laws_eqSignS.pl0] (ps := [laws_eqSignS.pl0]) (by kernel_rfl) ⟨⟨fun x => by kernel_rfl, fun k x => by kernel_rfl⟩, trivial⟩ (fun x => by kernel_rfl)

/-! ### spec_paList: function 76 -/

def spec_paList.l0 : Nat → List (S44) → List (S44) → Int → Int → Option (Bool)
  | 0, _, _, _, _ => none
  | k + 1, x0, x5, x6, x7 => if x7 < x6 then (if 0 ≤ x7 then (if x7 < (x5.length : Int) then ((spec_siGood.f k ((rd_T44 x5 x7).f0.f0.f0) ((rd_T44 x5 x7).f0.f0.f1) ((rd_T44 x5 x7).f0.f0.f2) ((rd_T44 x5 x7).f0.f0.f3) ((rd_T44 x5 x7).f0.f0.f4) ((rd_T44 x5 x7).f0.f0.f5) ((rd_T44 x5 x7).f0.f1.f0) ((rd_T44 x5 x7).f0.f1.f1) ((rd_T44 x5 x7).f0.f2.f0) ((rd_T44 x5 x7).f0.f2.f1) ((rd_T44 x5 x7).f0.f2.f2) ((rd_T44 x5 x7).f0.f3.f0) ((rd_T44 x5 x7).f0.f3.f1) ((rd_T44 x5 x7).f1) ((rd_T44 x5 x7).f2.f0.f0) ((rd_T44 x5 x7).f2.f0.f1) ((rd_T44 x5 x7).f2.f0.f2) ((rd_T44 x5 x7).f2.f0.f3) ((rd_T44 x5 x7).f2.f0.f4) ((rd_T44 x5 x7).f2.f0.f5) ((rd_T44 x5 x7).f2.f1.f0) ((rd_T44 x5 x7).f2.f1.f1) ((rd_T44 x5 x7).f2.f2.f0) ((rd_T44 x5 x7).f2.f2.f1) ((rd_T44 x5 x7).f2.f2.f2) ((rd_T44 x5 x7).f2.f3.f0) ((rd_T44 x5 x7).f2.f3.f1)).bind fun t768 => (if t768 = true then (spec_paList.l0 k x0 x5 x6 (wrap64 (x7 + 1))) else (some false))) else (none)) else (none)) else (some (decide ((x0.length : Int) ≤ 20)))

def spec_paList.f (k : Nat) (l0 : List (S44)) : Option (Bool) := spec_paList.l0 k l0 l0 (l0.length : Int) 0

theorem spec_paList.mono_l : ∀ k, (∀ y0 y1 y2 y3, LeO (spec_paList.l0 k y0 y1 y2 y3) (spec_paList.l0 (k + 1) y0 y1 y2 y3))
  | 0 => fun _ _ _ _ r h => by simp [spec_paList.l0] at h
  | k + 1 => by
    have ih0 := spec_paList.mono_l k
    · intro y0 y1 y2 y3
      unfold spec_paList.l0
      repeat' first
      | (with_reducible exact ih0 _ _ _ _)
      | (with_reducible exact spec_siGood.mono _ _ _ _ _ _ _ _ _ _ _ _ _ _ _ _ _ _ _ _ _ _ _ _ _ _ _ _)
      | (with_reducible exact LeO.refl _)
      | (with_reducible exact LeO.none _)
      | (with_reducible refine LeO.ite ?_ ?_)
      | (with_reducible refine LeO.bind ?_ (fun _ => ?_))
      | exact ih0 _ _ _ _
      | exact spec_siGood.mono _ _ _ _ _ _ _ _ _ _ _ _ _ _ _ _ _ _ _ _ _ _ _ _ _ _ _ _
      | exact LeO.none _
      | refine LeO.ite ?_ ?_
      | refine LeO.bind ?_ (fun _ => ?_)

theorem spec_paList.mono : ∀ a0 k, LeO (spec_paList.f k a0) (spec_paList.f (k + 1) a0) := by
  intro a0 k
  have ih0 := spec_paList.mono_l k
  unfold spec_paList.f
  repeat' first
      | (with_reducible exact ih0 _ _ _ _)
      | (with_reducible exact spec_siGood.mono _ _ _ _ _ _ _ _ _ _ _ _ _ _ _ _ _ _ _ _ _ _ _ _ _ _ _ _)
      | (with_reducible exact LeO.refl _)
      | (with_reducible exact LeO.none _)
      | (with_reducible refine LeO.ite ?_ ?_)
      | (with_reducible refine LeO.bind ?_ (fun _ => ?_))
      | exact ih0 _ _ _ _
      | exact spec_siGood.mono _ _ _ _ _ _ _ _ _ _ _ _ _ _ _ _ _ _ _ _ _ _ _ _ _ _ _ _
      | exact LeO.none _
      | refine LeO.ite ?_ ?_
      | refine LeO.bind ?_ (fun _ => ?_)

def spec_paList.e (k : Nat) : Refl.Ent G := ⟨76, [(.c (.row 44 false))], .one (.c .bool), fun x => spec_paList.f k x⟩
def spec_paList.pl0 : Refl.Pn G (Refl.PT G (spec_paList.e 0).ol) := ⟨true, 0, ⟨[(0, .v (.c (.row 44 false))), (5, .v (.c (.row 44 false))), (6, .v (.c li)), (7, .v (.c li)), (2, .k (Value.bool false))], []⟩, fun k x => spec_paList.l0 k x.1 x.2.1 x.2.2.1 x.2.2.2⟩
theorem spec_paList.ok (k : Nat) : Refl.EntOK Tryz.prog (spec_paList.e k) := Refl.ent_ok 1000000 k GC (fun k => [spec_siGood.e k]) (fun k => ⟨spec_siGood.ok k, trivial⟩) Tryz.func76 (by kernel_rfl) [spec_paList.pl0] (ps := [spec_paList.pl0]) (by kernel_rfl) ⟨⟨fun x => by kernel_rfl, fun k x => by kernel_rfl⟩, trivial⟩ (fun x => by kernel_rfl)

/-! ### spec_cmGood: function 39 -/

def spec_cmGood.f (k : Nat) (l0 : List (S44)) : Option (Bool) := (spec_l1In.f (l0.length : Int) 2 4).bind fun t769 => (if t769 = true then ((spec_paList.f k l0).bind fun t770 => (some t770)) else (some false))

theorem spec_cmGood.mono : ∀ a0 k, LeO (spec_cmGood.f k a0) (spec_cmGood.f (k + 1) a0) := by
  intro a0 k
  unfold spec_cmGood.f
  repeat' first
      | (with_reducible exact spec_paList.mono _ _)
      | (with_reducible exact LeO.refl _)
      | (with_reducible exact LeO.none _)
      | (with_reducible refine LeO.ite ?_ ?_)
      | (with_reducible refine LeO.bind ?_ (fun _ => ?_))
      | exact spec_paList.mono _ _
      | exact LeO.none _
      | refine LeO.ite ?_ ?_
      | refine LeO.bind ?_ (fun _ => ?_)

def spec_cmGood.e (k : Nat) : Refl.Ent G := ⟨39, [(.c (.row 44 false))], .one (.c .bool), fun x => spec_cmGood.f k x⟩
theorem spec_cmGood.ok (k : Nat) : Refl.EntOK Tryz.prog (spec_cmGood.e k) := Refl.ent_ok 1000000 k GC (fun k => [spec_l1In.e k, spec_paList.e k]) (fun k => ⟨spec_l1In.ok k, spec_paList.ok k, trivial⟩) Tryz.func39 (by kernel_rfl) [] (ps := []) (by kernel_rfl) trivial (fun x => by kernel_rfl)

/-! ### spec_l1Most: function 84 -/

def spec_l1Most.f (a0 : Int) (a1 : Int) : Option (Int) := if a0 > a1 then (some a0) else (some a1)

def spec_l1Most.e (k : Nat) : Refl.Ent G := ⟨84, [(.c li), (.c li)], .one (.c li), fun x => spec_l1Most.f x.1 x.2⟩
theorem spec_l1Most.ok (k : Nat) : Refl.EntOK Tryz.prog (spec_l1Most.e k) := Refl.ent_ok 1000000 k GC (fun k => []) (fun k => trivial) Tryz.func84 (by kernel_rfl) [] (ps := []) (by kernel_rfl) trivial (fun x => by kernel_rfl)

/-! ### spec_ruSteps: function 48 -/

def spec_ruSteps.f (k : Nat) (a0_0 : Int) (a0_1 : Int) (a0_2 : Int) (a0_3 : Int) (a0_4 : Int) (a0_5 : Bool) (a0_6 : Int) (a0_7 : Int) (a0_8 : Int) (a0_9 : Int) (a0_10 : Bool) (a0_11 : ByteArray) (a0_12 : Int) (a0_13 : Bool) (a0_14 : Int) (a0_15 : Int) (a0_16 : Int) (a0_17 : Int) (a0_18 : Int) (a0_19 : Bool) (a0_20 : Int) (a0_21 : Int) (a0_22 : Int) (a0_23 : Int) (a0_24 : Bool) (a0_25 : ByteArray) (a0_26 : Int) : Option (Int) := (spec_mvAll.f k a0_11 a0_12).bind fun t772 => ((spec_mvAll.f k a0_25 a0_26).bind fun t773 => ((spec_l1Most.f (t772.size : Int) (t773.size : Int)).bind fun t774 => (some t774)))

theorem spec_ruSteps.mono : ∀ a0 a1 a2 a3 a4 a5 a6 a7 a8 a9 a10 a11 a12 a13 a14 a15 a16 a17 a18 a19 a20 a21 a22 a23 a24 a25 a26 k, LeO (spec_ruSteps.f k a0 a1 a2 a3 a4 a5 a6 a7 a8 a9 a10 a11 a12 a13 a14 a15 a16 a17 a18 a19 a20 a21 a22 a23 a24 a25 a26) (spec_ruSteps.f (k + 1) a0 a1 a2 a3 a4 a5 a6 a7 a8 a9 a10 a11 a12 a13 a14 a15 a16 a17 a18 a19 a20 a21 a22 a23 a24 a25 a26) := by
  intro a0 a1 a2 a3 a4 a5 a6 a7 a8 a9 a10 a11 a12 a13 a14 a15 a16 a17 a18 a19 a20 a21 a22 a23 a24 a25 a26 k
  unfold spec_ruSteps.f
  repeat' first
      | (with_reducible exact spec_mvAll.mono _ _ _)
      | (with_reducible exact LeO.refl _)
      | (with_reducible exact LeO.none _)
      | (with_reducible refine LeO.ite ?_ ?_)
      | (with_reducible refine LeO.bind ?_ (fun _ => ?_))
      | exact spec_mvAll.mono _ _ _
      | exact LeO.none _
      | refine LeO.ite ?_ ?_
      | refine LeO.bind ?_ (fun _ => ?_)

def spec_ruSteps.e (k : Nat) : Refl.Ent G := ⟨48, [(.agg gL1)], .one (.c li), fun x => spec_ruSteps.f k x.1 x.2.1 x.2.2.1 x.2.2.2.1 x.2.2.2.2.1 x.2.2.2.2.2.1 x.2.2.2.2.2.2.1 x.2.2.2.2.2.2.2.1 x.2.2.2.2.2.2.2.2.1 x.2.2.2.2.2.2.2.2.2.1 x.2.2.2.2.2.2.2.2.2.2.1 x.2.2.2.2.2.2.2.2.2.2.2.1 x.2.2.2.2.2.2.2.2.2.2.2.2.1 x.2.2.2.2.2.2.2.2.2.2.2.2.2.1 x.2.2.2.2.2.2.2.2.2.2.2.2.2.2.1 x.2.2.2.2.2.2.2.2.2.2.2.2.2.2.2.1 x.2.2.2.2.2.2.2.2.2.2.2.2.2.2.2.2.1 x.2.2.2.2.2.2.2.2.2.2.2.2.2.2.2.2.2.1 x.2.2.2.2.2.2.2.2.2.2.2.2.2.2.2.2.2.2.1 x.2.2.2.2.2.2.2.2.2.2.2.2.2.2.2.2.2.2.2.1 x.2.2.2.2.2.2.2.2.2.2.2.2.2.2.2.2.2.2.2.2.1 x.2.2.2.2.2.2.2.2.2.2.2.2.2.2.2.2.2.2.2.2.2.1 x.2.2.2.2.2.2.2.2.2.2.2.2.2.2.2.2.2.2.2.2.2.2.1 x.2.2.2.2.2.2.2.2.2.2.2.2.2.2.2.2.2.2.2.2.2.2.2.1 x.2.2.2.2.2.2.2.2.2.2.2.2.2.2.2.2.2.2.2.2.2.2.2.2.1 x.2.2.2.2.2.2.2.2.2.2.2.2.2.2.2.2.2.2.2.2.2.2.2.2.2.1 x.2.2.2.2.2.2.2.2.2.2.2.2.2.2.2.2.2.2.2.2.2.2.2.2.2.2⟩
theorem spec_ruSteps.ok (k : Nat) : Refl.EntOK Tryz.prog (spec_ruSteps.e k) := Refl.ent_ok 1000000 k GC (fun k => [spec_mvAll.e k, spec_l1Most.e k]) (fun k => ⟨spec_mvAll.ok k, spec_l1Most.ok k, trivial⟩) Tryz.func48 (by kernel_rfl) [] (ps := []) (by kernel_rfl) trivial (fun x => by kernel_rfl)

/-! ### spec_l1Abs: function 131 -/

def spec_l1Abs.f (a0 : Int) : Option (Int) := (spec_l1Most.f a0 (wrap64 (0 - a0))).bind fun t775 => (some t775)

def spec_l1Abs.e (k : Nat) : Refl.Ent G := ⟨131, [(.c li)], .one (.c li), fun x => spec_l1Abs.f x⟩
theorem spec_l1Abs.ok (k : Nat) : Refl.EntOK Tryz.prog (spec_l1Abs.e k) := Refl.ent_ok 1000000 k GC (fun k => [spec_l1Most.e k]) (fun k => ⟨spec_l1Most.ok k, trivial⟩) Tryz.func131 (by kernel_rfl) [] (ps := []) (by kernel_rfl) trivial (fun x => by kernel_rfl)

/-! ### spec_plFar: function 86 -/

def spec_plFar.f (a0_0 : Int) (a0_1 : Int) (a0_2 : Bool) (a1_0 : Int) (a1_1 : Int) (a1_2 : Bool) : Option (Int) := (spec_l1Abs.f (wrap64 (a0_1 - a1_1))).bind fun t778 => (if ((a0_2 == a1_2) = true) then (if (((a0_0 == 0) == (a1_0 == 0)) = true) then ((spec_l1Abs.f (wrap64 (a0_0 - a1_0))).bind fun t779 => (some (wrap64 (t778 + t779)))) else (some (wrap64 (t778 + 4)))) else (if (((a0_0 == 0) == (a1_0 == 0)) = true) then ((spec_l1Abs.f (wrap64 (a0_0 - a1_0))).bind fun t780 => (some (wrap64 ((wrap64 (t778 + 1)) + t780)))) else (some (wrap64 ((wrap64 (t778 + 1)) + 4)))))

def spec_plFar.e (k : Nat) : Refl.Ent G := ⟨86, [(.agg [li, li, .bool]), (.agg [li, li, .bool])], .one (.c li), fun x => spec_plFar.f x.1 x.2.1 x.2.2.1 x.2.2.2.1 x.2.2.2.2.1 x.2.2.2.2.2⟩
theorem spec_plFar.ok (k : Nat) : Refl.EntOK Tryz.prog (spec_plFar.e k) := Refl.ent_ok 1000000 k GC (fun k => [spec_l1Abs.e k]) (fun k => ⟨spec_l1Abs.ok k, trivial⟩) Tryz.func86 (by kernel_rfl) [] (ps := []) (by kernel_rfl) trivial (fun x => by kernel_rfl)

/-! ### spec_cmGap: function 49 -/

def spec_cmGap.f (a0_0 : Int) (a0_1 : Int) (a0_2 : Int) (a0_3 : Int) (a0_4 : Int) (a0_5 : Bool) (a0_6 : Int) (a0_7 : Int) (a0_8 : Int) (a0_9 : Int) (a0_10 : Bool) (a0_11 : ByteArray) (a0_12 : Int) (a0_13 : Bool) (a0_14 : Int) (a0_15 : Int) (a0_16 : Int) (a0_17 : Int) (a0_18 : Int) (a0_19 : Bool) (a0_20 : Int) (a0_21 : Int) (a0_22 : Int) (a0_23 : Int) (a0_24 : Bool) (a0_25 : ByteArray) (a0_26 : Int) (a1_0 : Int) (a1_1 : Int) (a1_2 : Int) (a1_3 : Int) (a1_4 : Int) (a1_5 : Bool) (a1_6 : Int) (a1_7 : Int) (a1_8 : Int) (a1_9 : Int) (a1_10 : Bool) (a1_11 : ByteArray) (a1_12 : Int) (a1_13 : Bool) (a1_14 : Int) (a1_15 : Int) (a1_16 : Int) (a1_17 : Int) (a1_18 : Int) (a1_19 : Bool) (a1_20 : Int) (a1_21 : Int) (a1_22 : Int) (a1_23 : Int) (a1_24 : Bool) (a1_25 : ByteArray) (a1_26 : Int) : Option (Int) := (spec_plFar.f a0_8 a0_9 a0_10 a1_8 a1_9 a1_10).bind fun t783 => (if ((a0_13 == a1_13) = true) then (some t783) else (some (wrap64 (t783 + 1))))

def spec_cmGap.e (k : Nat) : Refl.Ent G := ⟨49, [(.agg gL1), (.agg gL1)], .one (.c li), fun x => spec_cmGap.f x.1 x.2.1 x.2.2.1 x.2.2.2.1 x.2.2.2.2.1 x.2.2.2.2.2.1 x.2.2.2.2.2.2.1 x.2.2.2.2.2.2.2.1 x.2.2.2.2.2.2.2.2.1 x.2.2.2.2.2.2.2.2.2.1 x.2.2.2.2.2.2.2.2.2.2.1 x.2.2.2.2.2.2.2.2.2.2.2.1 x.2.2.2.2.2.2.2.2.2.2.2.2.1 x.2.2.2.2.2.2.2.2.2.2.2.2.2.1 x.2.2.2.2.2.2.2.2.2.2.2.2.2.2.1 x.2.2.2.2.2.2.2.2.2.2.2.2.2.2.2.1 x.2.2.2.2.2.2.2.2.2.2.2.2.2.2.2.2.1 x.2.2.2.2.2.2.2.2.2.2.2.2.2.2.2.2.2.1 x.2.2.2.2.2.2.2.2.2.2.2.2.2.2.2.2.2.2.1 x.2.2.2.2.2.2.2.2.2.2.2.2.2.2.2.2.2.2.2.1 x.2.2.2.2.2.2.2.2.2.2.2.2.2.2.2.2.2.2.2.2.1 x.2.2.2.2.2.2.2.2.2.2.2.2.2.2.2.2.2.2.2.2.2.1 x.2.2.2.2.2.2.2.2.2.2.2.2.2.2.2.2.2.2.2.2.2.2.1 x.2.2.2.2.2.2.2.2.2.2.2.2.2.2.2.2.2.2.2.2.2.2.2.1 x.2.2.2.2.2.2.2.2.2.2.2.2.2.2.2.2.2.2.2.2.2.2.2.2.1 x.2.2.2.2.2.2.2.2.2.2.2.2.2.2.2.2.2.2.2.2.2.2.2.2.2.1 x.2.2.2.2.2.2.2.2.2.2.2.2.2.2.2.2.2.2.2.2.2.2.2.2.2.2.1 x.2.2.2.2.2.2.2.2.2.2.2.2.2.2.2.2.2.2.2.2.2.2.2.2.2.2.2.1 x.2.2.2.2.2.2.2.2.2.2.2.2.2.2.2.2.2.2.2.2.2.2.2.2.2.2.2.2.1 x.2.2.2.2.2.2.2.2.2.2.2.2.2.2.2.2.2.2.2.2.2.2.2.2.2.2.2.2.2.1 x.2.2.2.2.2.2.2.2.2.2.2.2.2.2.2.2.2.2.2.2.2.2.2.2.2.2.2.2.2.2.1 x.2.2.2.2.2.2.2.2.2.2.2.2.2.2.2.2.2.2.2.2.2.2.2.2.2.2.2.2.2.2.2.1 x.2.2.2.2.2.2.2.2.2.2.2.2.2.2.2.2.2.2.2.2.2.2.2.2.2.2.2.2.2.2.2.2.1 x.2.2.2.2.2.2.2.2.2.2.2.2.2.2.2.2.2.2.2.2.2.2.2.2.2.2.2.2.2.2.2.2.2.1 x.2.2.2.2.2.2.2.2.2.2.2.2.2.2.2.2.2.2.2.2.2.2.2.2.2.2.2.2.2.2.2.2.2.2.1 x.2.2.2.2.2.2.2.2.2.2.2.2.2.2.2.2.2.2.2.2.2.2.2.2.2.2.2.2.2.2.2.2.2.2.2.1 x.2.2.2.2.2.2.2.2.2.2.2.2.2.2.2.2.2.2.2.2.2.2.2.2.2.2.2.2.2.2.2.2.2.2.2.2.1 x.2.2.2.2.2.2.2.2.2.2.2.2.2.2.2.2.2.2.2.2.2.2.2.2.2.2.2.2.2.2.2.2.2.2.2.2.2.1 x.2.2.2.2.2.2.2.2.2.2.2.2.2.2.2.2.2.2.2.2.2.2.2.2.2.2.2.2.2.2.2.2.2.2.2.2.2.2.1 x.2.2.2.2.2.2.2.2.2.2.2.2.2.2.2.2.2.2.2.2.2.2.2.2.2.2.2.2.2.2.2.2.2.2.2.2.2.2.2.1 x.2.2.2.2.2.2.2.2.2.2.2.2.2.2.2.2.2.2.2.2.2.2.2.2.2.2.2.2.2.2.2.2.2.2.2.2.2.2.2.2.1 x.2.2.2.2.2.2.2.2.2.2.2.2.2.2.2.2.2.2.2.2.2.2.2.2.2.2.2.2.2.2.2.2.2.2.2.2.2.2.2.2.2.1 x.2.2.2.2.2.2.2.2.2.2.2.2.2.2.2.2.2.2.2.2.2.2.2.2.2.2.2.2.2.2.2.2.2.2.2.2.2.2.2.2.2.2.1 x.2.2.2.2.2.2.2.2.2.2.2.2.2.2.2.2.2.2.2.2.2.2.2.2.2.2.2.2.2.2.2.2.2.2.2.2.2.2.2.2.2.2.2.1 x.2.2.2.2.2.2.2.2.2.2.2.2.2.2.2.2.2.2.2.2.2.2.2.2.2.2.2.2.2.2.2.2.2.2.2.2.2.2.2.2.2.2.2.2.1 x.2.2.2.2.2.2.2.2.2.2.2.2.2.2.2.2.2.2.2.2.2.2.2.2.2.2.2.2.2.2.2.2.2.2.2.2.2.2.2.2.2.2.2.2.2.1 x.2.2.2.2.2.2.2.2.2.2.2.2.2.2.2.2.2.2.2.2.2.2.2.2.2.2.2.2.2.2.2.2.2.2.2.2.2.2.2.2.2.2.2.2.2.2.1 x.2.2.2.2.2.2.2.2.2.2.2.2.2.2.2.2.2.2.2.2.2.2.2.2.2.2.2.2.2.2.2.2.2.2.2.2.2.2.2.2.2.2.2.2.2.2.2.1 x.2.2.2.2.2.2.2.2.2.2.2.2.2.2.2.2.2.2.2.2.2.2.2.2.2.2.2.2.2.2.2.2.2.2.2.2.2.2.2.2.2.2.2.2.2.2.2.2.1 x.2.2.2.2.2.2.2.2.2.2.2.2.2.2.2.2.2.2.2.2.2.2.2.2.2.2.2.2.2.2.2.2.2.2.2.2.2.2.2.2.2.2.2.2.2.2.2.2.2.1 x.2.2.2.2.2.2.2.2.2.2.2.2.2.2.2.2.2.2.2.2.2.2.2.2.2.2.2.2.2.2.2.2.2.2.2.2.2.2.2.2.2.2.2.2.2.2.2.2.2.2.1 x.2.2.2.2.2.2.2.2.2.2.2.2.2.2.2.2.2.2.2.2.2.2.2.2.2.2.2.2.2.2.2.2.2.2.2.2.2.2.2.2.2.2.2.2.2.2.2.2.2.2.2.1 x.2.2.2.2.2.2.2.2.2.2.2.2.2.2.2.2.2.2.2.2.2.2.2.2.2.2.2.2.2.2.2.2.2.2.2.2.2.2.2.2.2.2.2.2.2.2.2.2.2.2.2.2.1 x.2.2.2.2.2.2.2.2.2.2.2.2.2.2.2.2.2.2.2.2.2.2.2.2.2.2.2.2.2.2.2.2.2.2.2.2.2.2.2.2.2.2.2.2.2.2.2.2.2.2.2.2.2⟩
theorem spec_cmGap.ok (k : Nat) : Refl.EntOK Tryz.prog (spec_cmGap.e k) := Refl.ent_ok 1000000 k GC (fun k => [spec_plFar.e k]) (fun k => ⟨spec_plFar.ok k, trivial⟩) Tryz.func49 (by kernel_rfl) [] (ps := []) (by kernel_rfl) trivial (fun x => by kernel_rfl)

end Go.Proofs.YtojfncpjgpklhaaGreatDoor.PA
