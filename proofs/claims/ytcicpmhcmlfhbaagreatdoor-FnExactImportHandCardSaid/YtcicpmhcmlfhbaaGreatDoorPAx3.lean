-- Written by a program of this session (wip/tools/myprint.py). Not trusted: Lean checks it.
import Derived.Test.YtcicpmhcmlfhbaaGreatDoorCtx
import Derived.Test.YtcicpmhcmlfhbaaGreatDoorPAx2
namespace Go.Proofs.YtcicpmhcmlfhbaaGreatDoor.PA
open Go.RowKit Go.Proofs.YtcicpmhcmlfhbaaGreatDoorW.PrintWords Go.Proofs.YtcicpmhcmlfhbaaGreatDoorW.PrintLast Go.Proofs.YtcicpmhcmlfhbaaGreatDoorW.PrintMore
attribute [local go_sem] max2_int min2_int max_two min_two max_three min_three max_four min_four   -- for this text's walks alone
set_option linter.unusedVariables false
set_option linter.unusedSimpArgs false

/-! ### laws_eqOrient: function 49 -/

def laws_eqOrient.f (a0_0 : Int) (a0_1 : Int) (a1_0 : Int) (a1_1 : Int) : Option (Bool) := if a0_0 = a1_0 then (if a0_1 = a1_1 then (some true) else (some false)) else (some false)

def laws_eqOrient.e (k : Nat) : Refl.Ent G := ⟨49, [(.agg [li, li]), (.agg [li, li])], .one (.c .bool), fun x => laws_eqOrient.f x.1 x.2.1 x.2.2.1 x.2.2.2⟩
theorem laws_eqOrient.ok (k : Nat) : Refl.EntOK Tryz.prog (laws_eqOrient.e k) := Refl.ent_ok 1000000 k GC (fun k => []) (fun k => trivial) Tryz.func49 (by kernel_rfl) [] (ps := []) (by kernel_rfl) trivial (fun x => by kernel_rfl)

/-! ### laws_eqPlace: function 50 -/

def laws_eqPlace.f (a0_0 : Int) (a0_1 : Int) (a0_2 : Bool) (a1_0 : Int) (a1_1 : Int) (a1_2 : Bool) : Option (Bool) := if a0_0 = a1_0 then (if a0_1 = a1_1 then (if ((a0_2 == a1_2) = true) then (some true) else (some false)) else (some false)) else (some false)

def laws_eqPlace.e (k : Nat) : Refl.Ent G := ⟨50, [(.agg [li, li, .bool]), (.agg [li, li, .bool])], .one (.c .bool), fun x => laws_eqPlace.f x.1 x.2.1 x.2.2.1 x.2.2.2.1 x.2.2.2.2.1 x.2.2.2.2.2⟩
theorem laws_eqPlace.ok (k : Nat) : Refl.EntOK Tryz.prog (laws_eqPlace.e k) := Refl.ent_ok 1000000 k GC (fun k => []) (fun k => trivial) Tryz.func50 (by kernel_rfl) [] (ps := []) (by kernel_rfl) trivial (fun x => by kernel_rfl)

/-! ### laws_eqMove: function 51 -/

def laws_eqMove.f (a0_0 : ByteArray) (a0_1 : Int) (a1_0 : ByteArray) (a1_1 : Int) : Option (Bool) := if a0_0.toList = a1_0.toList then (if a0_1 = a1_1 then (some true) else (some false)) else (some false)

def laws_eqMove.e (k : Nat) : Refl.Ent G := ⟨51, [(.agg [.str, li]), (.agg [.str, li])], .one (.c .bool), fun x => laws_eqMove.f x.1 x.2.1 x.2.2.1 x.2.2.2⟩
theorem laws_eqMove.ok (k : Nat) : Refl.EntOK Tryz.prog (laws_eqMove.e k) := Refl.ent_ok 1000000 k GC (fun k => []) (fun k => trivial) Tryz.func51 (by kernel_rfl) [] (ps := []) (by kernel_rfl) trivial (fun x => by kernel_rfl)

/-! ### laws_eqHand: function 11 -/

def laws_eqHand.f (a0_0 : Int) (a0_1 : Int) (a0_2 : Int) (a0_3 : Int) (a0_4 : Int) (a0_5 : Bool) (a0_6 : Int) (a0_7 : Int) (a0_8 : Int) (a0_9 : Int) (a0_10 : Bool) (a0_11 : ByteArray) (a0_12 : Int) (a1_0 : Int) (a1_1 : Int) (a1_2 : Int) (a1_3 : Int) (a1_4 : Int) (a1_5 : Bool) (a1_6 : Int) (a1_7 : Int) (a1_8 : Int) (a1_9 : Int) (a1_10 : Bool) (a1_11 : ByteArray) (a1_12 : Int) : Option (Bool) := (laws_eqShape.f a0_0 a0_1 a0_2 a0_3 a0_4 a0_5 a1_0 a1_1 a1_2 a1_3 a1_4 a1_5).bind fun t397 => (if t397 = true then ((laws_eqOrient.f a0_6 a0_7 a1_6 a1_7).bind fun t398 => (if t398 = true then ((laws_eqPlace.f a0_8 a0_9 a0_10 a1_8 a1_9 a1_10).bind fun t399 => (if t399 = true then ((laws_eqMove.f a0_11 a0_12 a1_11 a1_12).bind fun t400 => (if t400 = true then (some true) else (some false))) else (some false))) else (some false))) else (some false))

def laws_eqHand.e (k : Nat) : Refl.Ent G := ⟨11, [(.agg gL4), (.agg gL4)], .one (.c .bool), fun x => laws_eqHand.f x.1 x.2.1 x.2.2.1 x.2.2.2.1 x.2.2.2.2.1 x.2.2.2.2.2.1 x.2.2.2.2.2.2.1 x.2.2.2.2.2.2.2.1 x.2.2.2.2.2.2.2.2.1 x.2.2.2.2.2.2.2.2.2.1 x.2.2.2.2.2.2.2.2.2.2.1 x.2.2.2.2.2.2.2.2.2.2.2.1 x.2.2.2.2.2.2.2.2.2.2.2.2.1 x.2.2.2.2.2.2.2.2.2.2.2.2.2.1 x.2.2.2.2.2.2.2.2.2.2.2.2.2.2.1 x.2.2.2.2.2.2.2.2.2.2.2.2.2.2.2.1 x.2.2.2.2.2.2.2.2.2.2.2.2.2.2.2.2.1 x.2.2.2.2.2.2.2.2.2.2.2.2.2.2.2.2.2.1 x.2.2.2.2.2.2.2.2.2.2.2.2.2.2.2.2.2.2.1 x.2.2.2.2.2.2.2.2.2.2.2.2.2.2.2.2.2.2.2.1 x.2.2.2.2.2.2.2.2.2.2.2.2.2.2.2.2.2.2.2.2.1 x.2.2.2.2.2.2.2.2.2.2.2.2.2.2.2.2.2.2.2.2.2.1 x.2.2.2.2.2.2.2.2.2.2.2.2.2.2.2.2.2.2.2.2.2.2.1 x.2.2.2.2.2.2.2.2.2.2.2.2.2.2.2.2.2.2.2.2.2.2.2.1 x.2.2.2.2.2.2.2.2.2.2.2.2.2.2.2.2.2.2.2.2.2.2.2.2.1 x.2.2.2.2.2.2.2.2.2.2.2.2.2.2.2.2.2.2.2.2.2.2.2.2.2⟩
theorem laws_eqHand.ok (k : Nat) : Refl.EntOK Tryz.prog (laws_eqHand.e k) := Refl.ent_ok 1000000 k GC (fun k => [laws_eqShape.e k, laws_eqOrient.e k, laws_eqPlace.e k, laws_eqMove.e k]) (fun k => ⟨laws_eqShape.ok k, laws_eqOrient.ok k, laws_eqPlace.ok k, laws_eqMove.ok k, trivial⟩) Tryz.func11 (by kernel_rfl) [] (ps := []) (by kernel_rfl) trivial (fun x => by kernel_rfl)

/-! ### laws_FnExactImportHand: function 3 -/

def laws_FnExactImportHand.f (k : Nat) (a0 : ByteArray) : Option (Bool) := if (a0.size : Int) > 1048576 then (some true) else ((spec_ImportHand.f k a0).bind fun bt401 => ((impl_ImportHand.f k a0).bind fun bt417 => ((laws_eqHand.f bt417.1 bt417.2.1 bt417.2.2.1 bt417.2.2.2.1 bt417.2.2.2.2.1 bt417.2.2.2.2.2.1 bt417.2.2.2.2.2.2.1 bt417.2.2.2.2.2.2.2.1 bt417.2.2.2.2.2.2.2.2.1 bt417.2.2.2.2.2.2.2.2.2.1 bt417.2.2.2.2.2.2.2.2.2.2.1 bt417.2.2.2.2.2.2.2.2.2.2.2.1 bt417.2.2.2.2.2.2.2.2.2.2.2.2.1 bt401.1 bt401.2.1 bt401.2.2.1 bt401.2.2.2.1 bt401.2.2.2.2.1 bt401.2.2.2.2.2.1 bt401.2.2.2.2.2.2.1 bt401.2.2.2.2.2.2.2.1 bt401.2.2.2.2.2.2.2.2.1 bt401.2.2.2.2.2.2.2.2.2.1 bt401.2.2.2.2.2.2.2.2.2.2.1 bt401.2.2.2.2.2.2.2.2.2.2.2.1 bt401.2.2.2.2.2.2.2.2.2.2.2.2.1).bind fun t433 => (if t433 = true then (if bt417.2.2.2.2.2.2.2.2.2.2.2.2.2.1 = bt401.2.2.2.2.2.2.2.2.2.2.2.2.2.1 then (if ((bt417.2.2.2.2.2.2.2.2.2.2.2.2.2.2 == bt401.2.2.2.2.2.2.2.2.2.2.2.2.2.2) = true) then (some true) else (some false)) else (some false)) else (some false)))))

theorem laws_FnExactImportHand.mono : ∀ a0 k, LeO (laws_FnExactImportHand.f k a0) (laws_FnExactImportHand.f (k + 1) a0) := by
  intro a0 k
  unfold laws_FnExactImportHand.f
  repeat' first
      | (with_reducible exact impl_ImportHand.mono _ _)
      | (with_reducible exact spec_ImportHand.mono _ _)
      | (with_reducible exact LeO.refl _)
      | (with_reducible exact LeO.none _)
      | (with_reducible refine LeO.ite ?_ ?_)
      | (with_reducible refine LeO.bind ?_ (fun _ => ?_))
      | exact impl_ImportHand.mono _ _
      | exact spec_ImportHand.mono _ _
      | exact LeO.none _
      | refine LeO.ite ?_ ?_
      | refine LeO.bind ?_ (fun _ => ?_)

def laws_FnExactImportHand.e (k : Nat) : Refl.Ent G := ⟨3, [(.c .str)], .one (.c .bool), fun x => laws_FnExactImportHand.f k x⟩
theorem laws_FnExactImportHand.ok (k : Nat) : Refl.EntOK Tryz.prog (laws_FnExactImportHand.e k) := Refl.ent_ok 1000000 k GC (fun k => [spec_ImportHand.e k, impl_ImportHand.e k, laws_eqHand.e k]) (fun k => ⟨spec_ImportHand.ok k, impl_ImportHand.ok k, laws_eqHand.ok k, trivial⟩) Tryz.func3 (by kernel_rfl) [] (ps := []) (by kernel_rfl) trivial (fun x => by kernel_rfl)

theorem laws_FnExactImportHand.calls (k : Nat) (a0 : ByteArray) (r : Bool) (w : World) (hlw_ : Lw w) (h : laws_FnExactImportHand.f k a0 = some r) :
    Calls Tryz.prog 3 #[.string a0] w fun e w' => e = .returned (.bool r) ∧ Below w.heap.size w w' :=
 Refl.EntOK.flat (laws_FnExactImportHand.ok k) a0 r h (by kernel_rfl) (by kernel_rfl) (by kernel_rfl) (by kernel_rfl) w (hlw := hlw_)

end Go.Proofs.YtcicpmhcmlfhbaaGreatDoor.PA
