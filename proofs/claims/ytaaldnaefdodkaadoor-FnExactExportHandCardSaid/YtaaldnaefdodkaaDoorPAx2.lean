-- Written by a program of this session (wip/tools/myprint.py). Not trusted: Lean checks it.
import Derived.Test.YtaaldnaefdodkaaDoorCtx
import Derived.Test.YtaaldnaefdodkaaDoorPAx1
namespace Go.Proofs.YtaaldnaefdodkaaDoor.PA
open Go.RowKit Go.Proofs.YtaaldnaefdodkaaDoorW.PrintWords Go.Proofs.YtaaldnaefdodkaaDoorW.PrintLast Go.Proofs.YtaaldnaefdodkaaDoorW.PrintMore
attribute [local go_sem] max2_int min2_int max_two min_two max_three min_three max_four min_four   -- for this text's walks alone
set_option linter.unusedVariables false
set_option linter.unusedSimpArgs false

/-! ### impl_Move_text: function 32 -/

def impl_Move_text.f (a0_0 : ByteArray) (a0_1 : Int) : Option (ByteArray) := if a0_0.toList = ([] : List UInt8) then (some (⟨#[45]⟩ : ByteArray)) else (if a0_1 = 1 then (some a0_0) else (if a0_0.size + 1 ≤ 9223372036854775807 then ((strconv_Itoa.f a0_1).bind fun t244 => (if (a0_0 ++ (⟨#[42]⟩ : ByteArray)).size + t244.size ≤ 9223372036854775807 then (some ((a0_0 ++ (⟨#[42]⟩ : ByteArray)) ++ t244)) else (none))) else (none)))

def impl_Move_text.e (k : Nat) : Refl.Ent G := ⟨32, [(.agg [.str, li])], .one (.c .str), fun x => impl_Move_text.f x.1 x.2⟩
theorem impl_Move_text.ok (k : Nat) : Refl.EntOK Tryd.prog (impl_Move_text.e k) := Refl.ent_ok 1000000 k GC (fun k => [strconv_Itoa.e k]) (fun k => ⟨strconv_Itoa.ok k, trivial⟩) Tryd.func32 (by kernel_rfl) [] (ps := []) (by kernel_rfl) trivial (fun x => by kernel_rfl)

/-! ### impl_Hand_old: function 16 -/

def impl_Hand_old.f (k : Nat) (a0_0 : Int) (a0_1 : Int) (a0_2 : Int) (a0_3 : Int) (a0_4 : Int) (a0_5 : Bool) (a0_6 : Int) (a0_7 : Int) (a0_8 : Int) (a0_9 : Int) (a0_10 : Bool) (a0_11 : ByteArray) (a0_12 : Int) : Option (ByteArray) := (impl_Shape_text.f k a0_0 a0_1 a0_2 a0_3 a0_4 a0_5).bind fun t246 => (if 2 + t246.size ≤ 9223372036854775807 then (if ((⟨#[83, 61]⟩ : ByteArray) ++ t246).size + 3 ≤ 9223372036854775807 then ((impl_Orient_text.f a0_6 a0_7).bind fun t247 => (if (((⟨#[83, 61]⟩ : ByteArray) ++ t246) ++ (⟨#[59, 79, 61]⟩ : ByteArray)).size + t247.size ≤ 9223372036854775807 then (if ((((⟨#[83, 61]⟩ : ByteArray) ++ t246) ++ (⟨#[59, 79, 61]⟩ : ByteArray)) ++ t247).size + 3 ≤ 9223372036854775807 then ((impl_Place_text.f a0_8 a0_9 a0_10).bind fun t248 => (if (((((⟨#[83, 61]⟩ : ByteArray) ++ t246) ++ (⟨#[59, 79, 61]⟩ : ByteArray)) ++ t247) ++ (⟨#[59, 80, 61]⟩ : ByteArray)).size + t248.size ≤ 9223372036854775807 then (if ((((((⟨#[83, 61]⟩ : ByteArray) ++ t246) ++ (⟨#[59, 79, 61]⟩ : ByteArray)) ++ t247) ++ (⟨#[59, 80, 61]⟩ : ByteArray)) ++ t248).size + 3 ≤ 9223372036854775807 then ((impl_Move_text.f a0_11 a0_12).bind fun t249 => (if (((((((⟨#[83, 61]⟩ : ByteArray) ++ t246) ++ (⟨#[59, 79, 61]⟩ : ByteArray)) ++ t247) ++ (⟨#[59, 80, 61]⟩ : ByteArray)) ++ t248) ++ (⟨#[59, 77, 61]⟩ : ByteArray)).size + t249.size ≤ 9223372036854775807 then (some ((((((((⟨#[83, 61]⟩ : ByteArray) ++ t246) ++ (⟨#[59, 79, 61]⟩ : ByteArray)) ++ t247) ++ (⟨#[59, 80, 61]⟩ : ByteArray)) ++ t248) ++ (⟨#[59, 77, 61]⟩ : ByteArray)) ++ t249)) else (none))) else (none)) else (none))) else (none)) else (none))) else (none)) else (none))

theorem impl_Hand_old.mono : ∀ a0 a1 a2 a3 a4 a5 a6 a7 a8 a9 a10 a11 a12 k, LeO (impl_Hand_old.f k a0 a1 a2 a3 a4 a5 a6 a7 a8 a9 a10 a11 a12) (impl_Hand_old.f (k + 1) a0 a1 a2 a3 a4 a5 a6 a7 a8 a9 a10 a11 a12) := by
  intro a0 a1 a2 a3 a4 a5 a6 a7 a8 a9 a10 a11 a12 k
  unfold impl_Hand_old.f
  repeat' first
      | (with_reducible exact impl_Shape_text.mono _ _ _ _ _ _ _)
      | (with_reducible exact LeO.refl _)
      | (with_reducible exact LeO.none _)
      | (with_reducible refine LeO.ite ?_ ?_)
      | (with_reducible refine LeO.bind ?_ (fun _ => ?_))
      | exact impl_Shape_text.mono _ _ _ _ _ _ _
      | exact LeO.none _
      | refine LeO.ite ?_ ?_
      | refine LeO.bind ?_ (fun _ => ?_)

def impl_Hand_old.e (k : Nat) : Refl.Ent G := ⟨16, [(.agg gL0)], .one (.c .str), fun x => impl_Hand_old.f k x.1 x.2.1 x.2.2.1 x.2.2.2.1 x.2.2.2.2.1 x.2.2.2.2.2.1 x.2.2.2.2.2.2.1 x.2.2.2.2.2.2.2.1 x.2.2.2.2.2.2.2.2.1 x.2.2.2.2.2.2.2.2.2.1 x.2.2.2.2.2.2.2.2.2.2.1 x.2.2.2.2.2.2.2.2.2.2.2.1 x.2.2.2.2.2.2.2.2.2.2.2.2⟩
theorem impl_Hand_old.ok (k : Nat) : Refl.EntOK Tryd.prog (impl_Hand_old.e k) := Refl.ent_ok 1000000 k GC (fun k => [impl_Shape_text.e k, impl_Orient_text.e k, impl_Place_text.e k, impl_Move_text.e k]) (fun k => ⟨impl_Shape_text.ok k, impl_Orient_text.ok k, impl_Place_text.ok k, impl_Move_text.ok k, trivial⟩) Tryd.func16 (by kernel_rfl) [] (ps := []) (by kernel_rfl) trivial (fun x => by kernel_rfl)

/-! ### impl_ExportHand: function 7 -/

def impl_ExportHand.f (k : Nat) (a0_0 : Int) (a0_1 : Int) (a0_2 : Int) (a0_3 : Int) (a0_4 : Int) (a0_5 : Bool) (a0_6 : Int) (a0_7 : Int) (a0_8 : Int) (a0_9 : Int) (a0_10 : Bool) (a0_11 : ByteArray) (a0_12 : Int) : Option (ByteArray × Bool) := (impl_IsHand.f k a0_0 a0_1 a0_2 a0_3 a0_4 a0_5 a0_6 a0_7 a0_8 a0_9 a0_10 a0_11 a0_12).bind fun t251 => (if t251 = true then ((impl_Hand_old.f k a0_0 a0_1 a0_2 a0_3 a0_4 a0_5 a0_6 a0_7 a0_8 a0_9 a0_10 a0_11 a0_12).bind fun t252 => (some (t252, true))) else (some ((⟨#[]⟩ : ByteArray), false)))

theorem impl_ExportHand.mono : ∀ a0 a1 a2 a3 a4 a5 a6 a7 a8 a9 a10 a11 a12 k, LeO (impl_ExportHand.f k a0 a1 a2 a3 a4 a5 a6 a7 a8 a9 a10 a11 a12) (impl_ExportHand.f (k + 1) a0 a1 a2 a3 a4 a5 a6 a7 a8 a9 a10 a11 a12) := by
  intro a0 a1 a2 a3 a4 a5 a6 a7 a8 a9 a10 a11 a12 k
  unfold impl_ExportHand.f
  repeat' first
      | (with_reducible exact impl_Hand_old.mono _ _ _ _ _ _ _ _ _ _ _ _ _ _)
      | (with_reducible exact impl_IsHand.mono _ _ _ _ _ _ _ _ _ _ _ _ _ _)
      | (with_reducible exact LeO.refl _)
      | (with_reducible exact LeO.none _)
      | (with_reducible refine LeO.ite ?_ ?_)
      | (with_reducible refine LeO.bind ?_ (fun _ => ?_))
      | exact impl_Hand_old.mono _ _ _ _ _ _ _ _ _ _ _ _ _ _
      | exact impl_IsHand.mono _ _ _ _ _ _ _ _ _ _ _ _ _ _
      | exact LeO.none _
      | refine LeO.ite ?_ ?_
      | refine LeO.bind ?_ (fun _ => ?_)

def impl_ExportHand.e (k : Nat) : Refl.Ent G := ⟨7, [(.agg gL0)], .tup [(.c .str), (.c .bool)], fun x => impl_ExportHand.f k x.1 x.2.1 x.2.2.1 x.2.2.2.1 x.2.2.2.2.1 x.2.2.2.2.2.1 x.2.2.2.2.2.2.1 x.2.2.2.2.2.2.2.1 x.2.2.2.2.2.2.2.2.1 x.2.2.2.2.2.2.2.2.2.1 x.2.2.2.2.2.2.2.2.2.2.1 x.2.2.2.2.2.2.2.2.2.2.2.1 x.2.2.2.2.2.2.2.2.2.2.2.2⟩
theorem impl_ExportHand.ok (k : Nat) : Refl.EntOK Tryd.prog (impl_ExportHand.e k) := Refl.ent_ok 1000000 k GC (fun k => [impl_IsHand.e k, impl_Hand_old.e k]) (fun k => ⟨impl_IsHand.ok k, impl_Hand_old.ok k, trivial⟩) Tryd.func7 (by kernel_rfl) [] (ps := []) (by kernel_rfl) trivial (fun x => by kernel_rfl)

/-! ### laws_FnExactExportHand: function 3 -/

def laws_FnExactExportHand.f (k : Nat) (a0_0 : Int) (a0_1 : Int) (a0_2 : Int) (a0_3 : Int) (a0_4 : Int) (a0_5 : Bool) (a0_6 : Int) (a0_7 : Int) (a0_8 : Int) (a0_9 : Int) (a0_10 : Bool) (a0_11 : ByteArray) (a0_12 : Int) : Option (Bool) := (laws_szHand.f a0_0 a0_1 a0_2 a0_3 a0_4 a0_5 a0_6 a0_7 a0_8 a0_9 a0_10 a0_11 a0_12 1048576).bind fun t254 => (if t254 < 0 then (some true) else ((laws_toHand.f a0_0 a0_1 a0_2 a0_3 a0_4 a0_5 a0_6 a0_7 a0_8 a0_9 a0_10 a0_11 a0_12).bind fun bt255 => ((spec_ExportHand.f k bt255.1 bt255.2.1 bt255.2.2.1 bt255.2.2.2.1 bt255.2.2.2.2.1 bt255.2.2.2.2.2.1 bt255.2.2.2.2.2.2.1 bt255.2.2.2.2.2.2.2.1 bt255.2.2.2.2.2.2.2.2.1 bt255.2.2.2.2.2.2.2.2.2.1 bt255.2.2.2.2.2.2.2.2.2.2.1 bt255.2.2.2.2.2.2.2.2.2.2.2.1 bt255.2.2.2.2.2.2.2.2.2.2.2.2).bind fun bt268 => ((laws_toHand.f a0_0 a0_1 a0_2 a0_3 a0_4 a0_5 a0_6 a0_7 a0_8 a0_9 a0_10 a0_11 a0_12).bind fun bt270 => ((impl_ExportHand.f k bt270.1 bt270.2.1 bt270.2.2.1 bt270.2.2.2.1 bt270.2.2.2.2.1 bt270.2.2.2.2.2.1 bt270.2.2.2.2.2.2.1 bt270.2.2.2.2.2.2.2.1 bt270.2.2.2.2.2.2.2.2.1 bt270.2.2.2.2.2.2.2.2.2.1 bt270.2.2.2.2.2.2.2.2.2.2.1 bt270.2.2.2.2.2.2.2.2.2.2.2.1 bt270.2.2.2.2.2.2.2.2.2.2.2.2).bind fun bt283 => (if bt283.1.toList = bt268.1.toList then (if ((bt283.2 == bt268.2) = true) then (some true) else (some false)) else (some false)))))))

theorem laws_FnExactExportHand.mono : ∀ a0 a1 a2 a3 a4 a5 a6 a7 a8 a9 a10 a11 a12 k, LeO (laws_FnExactExportHand.f k a0 a1 a2 a3 a4 a5 a6 a7 a8 a9 a10 a11 a12) (laws_FnExactExportHand.f (k + 1) a0 a1 a2 a3 a4 a5 a6 a7 a8 a9 a10 a11 a12) := by
  intro a0 a1 a2 a3 a4 a5 a6 a7 a8 a9 a10 a11 a12 k
  unfold laws_FnExactExportHand.f
  repeat' first
      | (with_reducible exact impl_ExportHand.mono _ _ _ _ _ _ _ _ _ _ _ _ _ _)
      | (with_reducible exact spec_ExportHand.mono _ _ _ _ _ _ _ _ _ _ _ _ _ _)
      | (with_reducible exact LeO.refl _)
      | (with_reducible exact LeO.none _)
      | (with_reducible refine LeO.ite ?_ ?_)
      | (with_reducible refine LeO.bind ?_ (fun _ => ?_))
      | exact impl_ExportHand.mono _ _ _ _ _ _ _ _ _ _ _ _ _ _
      | exact spec_ExportHand.mono _ _ _ _ _ _ _ _ _ _ _ _ _ _
      | exact LeO.none _
      | refine LeO.ite ?_ ?_
      | refine LeO.bind ?_ (fun _ => ?_)

def laws_FnExactExportHand.e (k : Nat) : Refl.Ent G := ⟨3, [(.agg gL0)], .one (.c .bool), fun x => laws_FnExactExportHand.f k x.1 x.2.1 x.2.2.1 x.2.2.2.1 x.2.2.2.2.1 x.2.2.2.2.2.1 x.2.2.2.2.2.2.1 x.2.2.2.2.2.2.2.1 x.2.2.2.2.2.2.2.2.1 x.2.2.2.2.2.2.2.2.2.1 x.2.2.2.2.2.2.2.2.2.2.1 x.2.2.2.2.2.2.2.2.2.2.2.1 x.2.2.2.2.2.2.2.2.2.2.2.2⟩
theorem laws_FnExactExportHand.ok (k : Nat) : Refl.EntOK Tryd.prog (laws_FnExactExportHand.e k) := Refl.ent_ok 1000000 k GC (fun k => [laws_szHand.e k, laws_toHand.e k, spec_ExportHand.e k, impl_ExportHand.e k]) (fun k => ⟨laws_szHand.ok k, laws_toHand.ok k, spec_ExportHand.ok k, impl_ExportHand.ok k, trivial⟩) Tryd.func3 (by kernel_rfl) [] (ps := []) (by kernel_rfl) trivial (fun x => by kernel_rfl)

theorem laws_FnExactExportHand.calls (k : Nat) (a0_0 : Int) (a0_1 : Int) (a0_2 : Int) (a0_3 : Int) (a0_4 : Int) (a0_5 : Bool) (a0_6 : Int) (a0_7 : Int) (a0_8 : Int) (a0_9 : Int) (a0_10 : Bool) (a0_11 : ByteArray) (a0_12 : Int) (r : Bool) (w : World) (h : laws_FnExactExportHand.f k a0_0 a0_1 a0_2 a0_3 a0_4 a0_5 a0_6 a0_7 a0_8 a0_9 a0_10 a0_11 a0_12 = some r) :
    Calls Tryd.prog 3 #[.agg #[.int .i64 a0_0, .int .i64 a0_1, .int .i64 a0_2, .int .i64 a0_3, .int .i64 a0_4, .bool a0_5, .int .i64 a0_6, .int .i64 a0_7, .int .i64 a0_8, .int .i64 a0_9, .bool a0_10, .string a0_11, .int .i64 a0_12]] w fun e w' => e = .returned (.bool r) ∧ Below w.heap.size w w' :=
 Refl.EntOK.flat (laws_FnExactExportHand.ok k) (a0_0, a0_1, a0_2, a0_3, a0_4, a0_5, a0_6, a0_7, a0_8, a0_9, a0_10, a0_11, a0_12) r h (by kernel_rfl) (by kernel_rfl) (by kernel_rfl) (by kernel_rfl) w

end Go.Proofs.YtaaldnaefdodkaaDoor.PA
