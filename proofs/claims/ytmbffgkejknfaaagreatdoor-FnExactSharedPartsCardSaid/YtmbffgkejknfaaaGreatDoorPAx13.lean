-- Written by a program of this session (wip/tools/myprint.py). Not trusted: Lean checks it.
import Derived.Test.YtmbffgkejknfaaaGreatDoorSq4
import Derived.Test.YtmbffgkejknfaaaGreatDoorPAx0
import Derived.Test.YtmbffgkejknfaaaGreatDoorPAx1
import Derived.Test.YtmbffgkejknfaaaGreatDoorPAx11
import Derived.Test.YtmbffgkejknfaaaGreatDoorPAx12
namespace Go.Proofs.YtmbffgkejknfaaaGreatDoor.PA
open Go.RowKit Go.Proofs.YtmbffgkejknfaaaGreatDoorW.PrintWords Go.Proofs.YtmbffgkejknfaaaGreatDoorW.PrintLast Go.Proofs.YtmbffgkejknfaaaGreatDoorW.PrintMore
attribute [local go_sem] max2_int min2_int max_two min_two max_three min_three max_four min_four   -- for this text's walks alone
set_option linter.unusedVariables false
set_option linter.unusedSimpArgs false

attribute [local go_sem high] eqA37
/-! ### impl_IsMove: function 88 -/
def impl_IsMove.f (k : Nat) (a0_0 : ByteArray) (a0_1 : Int) : Option (Bool) := if (a0_0.size : Int) ≤ 6 then ((impl_hasOnly.f k a0_0 (⟨#[117, 100, 108, 114, 102, 98]⟩ : ByteArray)).bind fun t260 => (if t260 = true then ((impl_within.f a0_1 1 3).bind fun t261 => (if t261 = true then (if a0_0.toList = ([] : List UInt8) then (some (a0_1 == 1)) else (some true)) else (some false))) else (some false))) else (some false)
theorem impl_IsMove.mono : ∀ a0 a1 k, LeO (impl_IsMove.f k a0 a1) (impl_IsMove.f (k + 1) a0 a1) := by
 intro a0 a1 k
 unfold impl_IsMove.f
 repeat' first
   | (with_reducible exact impl_hasOnly.mono _ _ _)
   | (with_reducible exact LeO.refl _)
   | (with_reducible exact LeO.none _)
   | (with_reducible refine LeO.ite ?_ ?_)
   | (with_reducible refine LeO.bind ?_ (fun _ => ?_))
   | exact LeO.none _
   | refine LeO.ite ?_ ?_
   | refine LeO.bind ?_ (fun _ => ?_)
set_option maxHeartbeats 8000000 in
set_option maxRecDepth 100000 in
theorem impl_IsMove.calls (k : Nat) (a0_0 : ByteArray) (a0_1 : Int) (r : Bool) (w : World) (h : impl_IsMove.f k a0_0 a0_1 = some r) :
  Calls Tryz.prog 88 #[.agg #[.string a0_0, .int .i64 a0_1]] w fun e w' => e = .returned (.bool r) ∧ Below w.heap.size w w' := by
 have hu40 := Tryz.underlying40
 have HB := am_ (Below.refl w.heap.size w)
 have H : (if (a0_0.size : Int) ≤ 6 then ((impl_hasOnly.f k a0_0 (⟨#[117, 100, 108, 114, 102, 98]⟩ : ByteArray)).bind fun t260 => (if t260 = true then ((impl_within.f a0_1 1 3).bind fun t261 => (if t261 = true then (if a0_0.toList = ([] : List UInt8) then (some (a0_1 == 1)) else (some true)) else (some false))) else (some false))) else (some false)) = some r := h
 clear h
 by_cases c2 : (a0_0.size : Int) ≤ 6
 ·rw [if_pos c2] at H
  have c2b0 : decide ((a0_0.size : Int) ≤ 6) = true := decide_eq_true c2
  have c2b1 : decide (a0_0.size ≤ 6) = true := decide_eq_true (by omega)
  clear c2
  replace H := Option.bind_eq_some_iff.mp H
  obtain ⟨t260, A30, H⟩ := H
  try dsimp only at H
  have A3 := Aside0.mk A30
  clear A30
  by_cases c4 : t260 = true
  ·subst c4
   have H1 : ((impl_within.f a0_1 1 3).bind fun t261 => (if t261 = true then (if a0_0.toList = ([] : List UInt8) then (some (a0_1 == 1)) else (some true)) else (some false))) = some r := by rw [if_pos rfl] at H; exact H
   clear H
   have H := H1
   clear H1
   replace H := Option.bind_eq_some_iff.mp H
   obtain ⟨t261, A50, H⟩ := H
   try dsimp only at H
   have A5 := Aside0.mk A50
   clear A50
   by_cases c6 : t261 = true
   ·subst c6
    have H1 : (if a0_0.toList = ([] : List UInt8) then (some (a0_1 == 1)) else (some true)) = some r := by rw [if_pos rfl] at H; exact H
    clear H
    have H := H1
    clear H1
    by_cases c7 : a0_0.toList = ([] : List UInt8)
    ·rw [if_pos c7] at H
     have c7b0 : (a0_0.toList == ([] : List UInt8)) = true := beq_iff_eq.mpr c7
     have c7b1 : (a0_0.toList != ([] : List UInt8)) = false := bne_eq_false_iff_eq.mpr c7
     clear c7
     obtain rfl := Option.some.inj H
     go_enter Tryz.func88, Tryz.ntmps88
     go_wp2_with (first | ((with_reducible refine gate_dst (N := 1) rfl ?_); refine bx_ (cs := #[.string a0_0, .int .i64 a0_1]) (t := 40) ?_; intro gb259 hg w8 hbox hb; have BK259 := am_ (hbox); have GW259 := gz_ hg HB; have GE259 := gz_ hg HB; replace HB := am_ (bt_ HB hb); clear hb hbox hg; have hcz9_0 := cz0_ BK259; have hcz9_1 := cz1_ BK259) | (go_at_call 123; (with_reducible refine (impl_hasOnly.calls (w := _) (h := A3.out)).mono ?_); rintro e w' ⟨rfl, ⟨nd, rfl⟩⟩) | (go_at_call 63; (with_reducible refine (impl_within.calls a0_1 1 3 true _ A5.out).mono ?_); rintro e w' ⟨rfl, ⟨nd, rfl⟩⟩))
     go_ret
     exact ⟨ew_, bb1_ HB GE259⟩
    ·rw [if_neg c7] at H
     have c7b0 : (a0_0.toList == ([] : List UInt8)) = false := beq_eq_false_iff_ne.mpr c7
     have c7b1 : (a0_0.toList != ([] : List UInt8)) = true := bne_iff_ne.mpr c7
     obtain rfl := Option.some.inj H
     go_enter Tryz.func88, Tryz.ntmps88
     go_wp2_with (first | ((with_reducible refine gate_dst (N := 1) rfl ?_); refine bx_ (cs := #[.string a0_0, .int .i64 a0_1]) (t := 40) ?_; intro gb259 hg w10 hbox hb; have BK259 := am_ (hbox); have GW259 := gz_ hg HB; have GE259 := gz_ hg HB; replace HB := am_ (bt_ HB hb); clear hb hbox hg; have hcz11_0 := cz0_ BK259; have hcz11_1 := cz1_ BK259) | (go_at_call 123; (with_reducible refine (impl_hasOnly.calls (w := _) (h := A3.out)).mono ?_); rintro e w' ⟨rfl, ⟨nd, rfl⟩⟩) | (go_at_call 63; (with_reducible refine (impl_within.calls a0_1 1 3 true _ A5.out).mono ?_); rintro e w' ⟨rfl, ⟨nd, rfl⟩⟩))
     go_ret
     exact ⟨ew_, bb1_ HB GE259⟩
   ·replace c6 := Bool.eq_false_iff.mpr c6
    subst c6
    have H1 : (some false) = some r := by rw [if_neg (show ¬ (false = true) by decide)] at H; exact H
    clear H
    have H := H1
    clear H1
    obtain rfl := Option.some.inj H
    go_enter Tryz.func88, Tryz.ntmps88
    go_wp2_with (first | ((with_reducible refine gate_dst (N := 1) rfl ?_); refine bx_ (cs := #[.string a0_0, .int .i64 a0_1]) (t := 40) ?_; intro gb259 hg w12 hbox hb; have BK259 := am_ (hbox); have GW259 := gz_ hg HB; have GE259 := gz_ hg HB; replace HB := am_ (bt_ HB hb); clear hb hbox hg; have hcz13_0 := cz0_ BK259; have hcz13_1 := cz1_ BK259) | (go_at_call 123; (with_reducible refine (impl_hasOnly.calls (w := _) (h := A3.out)).mono ?_); rintro e w' ⟨rfl, ⟨nd, rfl⟩⟩) | (go_at_call 63; (with_reducible refine (impl_within.calls a0_1 1 3 false _ A5.out).mono ?_); rintro e w' ⟨rfl, ⟨nd, rfl⟩⟩))
    go_ret
    exact ⟨ew_, bb1_ HB GE259⟩
  ·replace c4 := Bool.eq_false_iff.mpr c4
   subst c4
   have H1 : (some false) = some r := by rw [if_neg (show ¬ (false = true) by decide)] at H; exact H
   clear H
   have H := H1
   clear H1
   obtain rfl := Option.some.inj H
   go_enter Tryz.func88, Tryz.ntmps88
   go_wp2_with (first | ((with_reducible refine gate_dst (N := 1) rfl ?_); refine bx_ (cs := #[.string a0_0, .int .i64 a0_1]) (t := 40) ?_; intro gb259 hg w14 hbox hb; have BK259 := am_ (hbox); have GW259 := gz_ hg HB; have GE259 := gz_ hg HB; replace HB := am_ (bt_ HB hb); clear hb hbox hg; have hcz15_0 := cz0_ BK259; have hcz15_1 := cz1_ BK259) | (go_at_call 123; (with_reducible refine (impl_hasOnly.calls (w := _) (h := A3.out)).mono ?_); rintro e w' ⟨rfl, ⟨nd, rfl⟩⟩))
   go_ret
   exact ⟨ew_, bb1_ HB GE259⟩
 ·rw [if_neg c2] at H
  have c2b0 : decide ((a0_0.size : Int) ≤ 6) = false := decide_eq_false c2
  have c2b1 : decide (a0_0.size ≤ 6) = false := decide_eq_false (by omega)
  clear c2
  obtain rfl := Option.some.inj H
  go_enter Tryz.func88, Tryz.ntmps88
  go_wp2_with (first | ((with_reducible refine gate_dst (N := 1) rfl ?_); refine bx_ (cs := #[.string a0_0, .int .i64 a0_1]) (t := 40) ?_; intro gb259 hg w16 hbox hb; have BK259 := am_ (hbox); have GW259 := gz_ hg HB; have GE259 := gz_ hg HB; replace HB := am_ (bt_ HB hb); clear hb hbox hg; have hcz17_0 := cz0_ BK259; have hcz17_1 := cz1_ BK259))
  go_ret
  exact ⟨ew_, bb1_ HB GE259⟩

/-! ### impl_IsHand: function 51 -/
def impl_IsHand.f (k : Nat) (a0_0 a0_1 : Int) (a0_2 a0_3 a0_4 : Int) (a0_5 : Bool) (a0_6 a0_7 : Int) (a0_8 a0_9 : Int) (a0_10 : Bool) (a0_11 : ByteArray) (a0_12 : Int) : Option (Bool) := (impl_IsShape.f a0_0 a0_1 a0_2 a0_3 a0_4 a0_5).bind fun t263 => (if t263 = true then ((impl_IsOrient.f a0_6 a0_7).bind fun t264 => (if t264 = true then ((impl_IsPlace.f a0_8 a0_9 a0_10).bind fun t265 => (if t265 = true then ((impl_IsMove.f k a0_11 a0_12).bind fun t266 => (some t266)) else (some false))) else (some false))) else (some false))
theorem impl_IsHand.mono : ∀ a0 a1 a2 a3 a4 a5 a6 a7 a8 a9 a10 a11 a12 k, LeO (impl_IsHand.f k a0 a1 a2 a3 a4 a5 a6 a7 a8 a9 a10 a11 a12) (impl_IsHand.f (k + 1) a0 a1 a2 a3 a4 a5 a6 a7 a8 a9 a10 a11 a12) := by
 intro a0 a1 a2 a3 a4 a5 a6 a7 a8 a9 a10 a11 a12 k
 unfold impl_IsHand.f
 repeat' first
   | (with_reducible exact impl_IsMove.mono _ _ _)
   | (with_reducible exact LeO.refl _)
   | (with_reducible exact LeO.none _)
   | (with_reducible refine LeO.ite ?_ ?_)
   | (with_reducible refine LeO.bind ?_ (fun _ => ?_))
   | exact LeO.none _
   | refine LeO.ite ?_ ?_
   | refine LeO.bind ?_ (fun _ => ?_)
set_option maxHeartbeats 8000000 in
set_option maxRecDepth 100000 in
theorem impl_IsHand.calls (k : Nat) (a0_0 a0_1 : Int) (a0_2 a0_3 a0_4 : Int) (a0_5 : Bool) (a0_6 a0_7 : Int) (a0_8 a0_9 : Int) (a0_10 : Bool) (a0_11 : ByteArray) (a0_12 : Int) (r : Bool) (w : World) (h : impl_IsHand.f k a0_0 a0_1 a0_2 a0_3 a0_4 a0_5 a0_6 a0_7 a0_8 a0_9 a0_10 a0_11 a0_12 = some r) :
  Calls Tryz.prog 51 #[.agg #[.int .i64 a0_0, .int .i64 a0_1, .int .i64 a0_2, .int .i64 a0_3, .int .i64 a0_4, .bool a0_5, .int .i64 a0_6, .int .i64 a0_7, .int .i64 a0_8, .int .i64 a0_9, .bool a0_10, .string a0_11, .int .i64 a0_12]] w fun e w' => e = .returned (.bool r) ∧ Below w.heap.size w w' := by
 have hu42 := Tryz.underlying42
 have hu37 := Tryz.underlying37
 have hu38 := Tryz.underlying38
 have hu39 := Tryz.underlying39
 have hu40 := Tryz.underlying40
 have HB := am_ (Below.refl w.heap.size w)
 have H : ((impl_IsShape.f a0_0 a0_1 a0_2 a0_3 a0_4 a0_5).bind fun t263 => (if t263 = true then ((impl_IsOrient.f a0_6 a0_7).bind fun t264 => (if t264 = true then ((impl_IsPlace.f a0_8 a0_9 a0_10).bind fun t265 => (if t265 = true then ((impl_IsMove.f k a0_11 a0_12).bind fun t266 => (some t266)) else (some false))) else (some false))) else (some false))) = some r := h
 clear h
 replace H := Option.bind_eq_some_iff.mp H
 obtain ⟨t263, A20, H⟩ := H
 try dsimp only at H
 have A2 := Aside0.mk A20
 clear A20
 by_cases c3 : t263 = true
 ·subst c3
  have H1 : ((impl_IsOrient.f a0_6 a0_7).bind fun t264 => (if t264 = true then ((impl_IsPlace.f a0_8 a0_9 a0_10).bind fun t265 => (if t265 = true then ((impl_IsMove.f k a0_11 a0_12).bind fun t266 => (some t266)) else (some false))) else (some false))) = some r := by rw [if_pos rfl] at H; exact H
  clear H
  have H := H1
  clear H1
  replace H := Option.bind_eq_some_iff.mp H
  obtain ⟨t264, A40, H⟩ := H
  try dsimp only at H
  have A4 := Aside0.mk A40
  clear A40
  by_cases c5 : t264 = true
  ·subst c5
   have H1 : ((impl_IsPlace.f a0_8 a0_9 a0_10).bind fun t265 => (if t265 = true then ((impl_IsMove.f k a0_11 a0_12).bind fun t266 => (some t266)) else (some false))) = some r := by rw [if_pos rfl] at H; exact H
   clear H
   have H := H1
   clear H1
   replace H := Option.bind_eq_some_iff.mp H
   obtain ⟨t265, A60, H⟩ := H
   try dsimp only at H
   have A6 := Aside0.mk A60
   clear A60
   by_cases c7 : t265 = true
   ·subst c7
    have H1 : ((impl_IsMove.f k a0_11 a0_12).bind fun t266 => (some t266)) = some r := by rw [if_pos rfl] at H; exact H
    clear H
    have H := H1
    clear H1
    replace H := Option.bind_eq_some_iff.mp H
    obtain ⟨t266, A80, H⟩ := H
    try dsimp only at H
    have A8 := Aside0.mk A80
    clear A80
    obtain rfl := Option.some.inj H
    go_enter Tryz.func51, Tryz.ntmps51
    go_wp2_with (first | ((with_reducible refine gate_dst (N := 1) rfl ?_); refine bx_ (cs := #[.int .i64 a0_0, .int .i64 a0_1, .int .i64 a0_2, .int .i64 a0_3, .int .i64 a0_4, .bool a0_5, .int .i64 a0_6, .int .i64 a0_7, .int .i64 a0_8, .int .i64 a0_9, .bool a0_10, .string a0_11, .int .i64 a0_12]) (t := 42) ?_; intro gb262 hg w9 hbox hb; have BK262 := am_ (hbox); have GW262 := gz_ hg HB; have GE262 := gz_ hg HB; replace HB := am_ (bt_ HB hb); clear hb hbox hg; have hcz10_0 := cz0_ BK262; have hcz10_1 := cz1_ BK262; have hcz10_2 := cz2_ BK262; have hcz10_3 := cz3_ BK262; have hcz10_4 := cz4_ BK262; have hcz10_5 := cz5_ BK262; have hcz10_6 := cz6_ BK262; have hcz10_7 := cz7_ BK262; have hcz10_8 := cz8_ BK262; have hcz10_9 := cz9_ BK262; have hcz10_10 := cz10_ BK262; have hcz10_11 := cz11_ BK262; have hcz10_12 := cz12_ BK262) | ((with_reducible refine gate_callee (f := 85) rfl ?_); refine goesL_ (some 5) rfl rfl Tryz.func85 (by kernel_rfl) rfl #[.agg #[.int .i64 a0_0, .int .i64 a0_1, .int .i64 a0_2, .int .i64 a0_3, .int .i64 a0_4, .bool a0_5]] rfl args_ ?_; (with_reducible refine (impl_IsShape.calls (w := _) (h := A2.out)).mono ?_); rintro e w11 ⟨rfl, hb⟩; refine ⟨_, rfl, ?_⟩; replace BK262 := am_ (lb_ BK262 hb); replace HB := am_ (below_step (bb1_ HB GE262) hb); (try clear hb); (try clear hb2); (try clear hk); (try clear hi); have hcz12_0 := cz0_ BK262; have hcz12_1 := cz1_ BK262; have hcz12_2 := cz2_ BK262; have hcz12_3 := cz3_ BK262; have hcz12_4 := cz4_ BK262; have hcz12_5 := cz5_ BK262; have hcz12_6 := cz6_ BK262; have hcz12_7 := cz7_ BK262; have hcz12_8 := cz8_ BK262; have hcz12_9 := cz9_ BK262; have hcz12_10 := cz10_ BK262; have hcz12_11 := cz11_ BK262; have hcz12_12 := cz12_ BK262) | (go_at_call 86; (with_reducible refine (impl_IsOrient.calls a0_6 a0_7 true _ A4.out).mono ?_); rintro e w13 ⟨rfl, hb⟩; replace BK262 := am_ (lb_ BK262 hb); replace HB := am_ (below_step (bb1_ HB GE262) hb); (try clear hb); (try clear hb2); (try clear hk); (try clear hi); have hcz14_0 := cz0_ BK262; have hcz14_1 := cz1_ BK262; have hcz14_2 := cz2_ BK262; have hcz14_3 := cz3_ BK262; have hcz14_4 := cz4_ BK262; have hcz14_5 := cz5_ BK262; have hcz14_6 := cz6_ BK262; have hcz14_7 := cz7_ BK262; have hcz14_8 := cz8_ BK262; have hcz14_9 := cz9_ BK262; have hcz14_10 := cz10_ BK262; have hcz14_11 := cz11_ BK262; have hcz14_12 := cz12_ BK262) | (go_at_call 87; (with_reducible refine (impl_IsPlace.calls a0_8 a0_9 a0_10 true _ A6.out).mono ?_); rintro e w15 ⟨rfl, hb⟩; replace BK262 := am_ (lb_ BK262 hb); replace HB := am_ (below_step (bb1_ HB GE262) hb); (try clear hb); (try clear hb2); (try clear hk); (try clear hi); have hcz16_0 := cz0_ BK262; have hcz16_1 := cz1_ BK262; have hcz16_2 := cz2_ BK262; have hcz16_3 := cz3_ BK262; have hcz16_4 := cz4_ BK262; have hcz16_5 := cz5_ BK262; have hcz16_6 := cz6_ BK262; have hcz16_7 := cz7_ BK262; have hcz16_8 := cz8_ BK262; have hcz16_9 := cz9_ BK262; have hcz16_10 := cz10_ BK262; have hcz16_11 := cz11_ BK262; have hcz16_12 := cz12_ BK262) | (go_at_call 88; (with_reducible refine (impl_IsMove.calls k a0_11 a0_12 t266 _ A8.out).mono ?_); rintro e w17 ⟨rfl, hb⟩; replace BK262 := am_ (lb_ BK262 hb); replace HB := am_ (below_step (bb1_ HB GE262) hb); (try clear hb); (try clear hb2); (try clear hk); (try clear hi)))
    go_ret
    exact ⟨ew_, bb1_ HB GE262⟩
   ·replace c7 := Bool.eq_false_iff.mpr c7
    subst c7
    have H1 : (some false) = some r := by rw [if_neg (show ¬ (false = true) by decide)] at H; exact H
    clear H
    have H := H1
    clear H1
    obtain rfl := Option.some.inj H
    go_enter Tryz.func51, Tryz.ntmps51
    go_wp2_with (first | ((with_reducible refine gate_dst (N := 1) rfl ?_); refine bx_ (cs := #[.int .i64 a0_0, .int .i64 a0_1, .int .i64 a0_2, .int .i64 a0_3, .int .i64 a0_4, .bool a0_5, .int .i64 a0_6, .int .i64 a0_7, .int .i64 a0_8, .int .i64 a0_9, .bool a0_10, .string a0_11, .int .i64 a0_12]) (t := 42) ?_; intro gb262 hg w18 hbox hb; have BK262 := am_ (hbox); have GW262 := gz_ hg HB; have GE262 := gz_ hg HB; replace HB := am_ (bt_ HB hb); clear hb hbox hg; have hcz19_0 := cz0_ BK262; have hcz19_1 := cz1_ BK262; have hcz19_2 := cz2_ BK262; have hcz19_3 := cz3_ BK262; have hcz19_4 := cz4_ BK262; have hcz19_5 := cz5_ BK262; have hcz19_6 := cz6_ BK262; have hcz19_7 := cz7_ BK262; have hcz19_8 := cz8_ BK262; have hcz19_9 := cz9_ BK262; have hcz19_10 := cz10_ BK262; have hcz19_11 := cz11_ BK262; have hcz19_12 := cz12_ BK262) | ((with_reducible refine gate_callee (f := 85) rfl ?_); refine goesL_ (some 5) rfl rfl Tryz.func85 (by kernel_rfl) rfl #[.agg #[.int .i64 a0_0, .int .i64 a0_1, .int .i64 a0_2, .int .i64 a0_3, .int .i64 a0_4, .bool a0_5]] rfl args_ ?_; (with_reducible refine (impl_IsShape.calls (w := _) (h := A2.out)).mono ?_); rintro e w20 ⟨rfl, hb⟩; refine ⟨_, rfl, ?_⟩; replace BK262 := am_ (lb_ BK262 hb); replace HB := am_ (below_step (bb1_ HB GE262) hb); (try clear hb); (try clear hb2); (try clear hk); (try clear hi); have hcz21_0 := cz0_ BK262; have hcz21_1 := cz1_ BK262; have hcz21_2 := cz2_ BK262; have hcz21_3 := cz3_ BK262; have hcz21_4 := cz4_ BK262; have hcz21_5 := cz5_ BK262; have hcz21_6 := cz6_ BK262; have hcz21_7 := cz7_ BK262; have hcz21_8 := cz8_ BK262; have hcz21_9 := cz9_ BK262; have hcz21_10 := cz10_ BK262; have hcz21_11 := cz11_ BK262; have hcz21_12 := cz12_ BK262) | (go_at_call 86; (with_reducible refine (impl_IsOrient.calls a0_6 a0_7 true _ A4.out).mono ?_); rintro e w22 ⟨rfl, hb⟩; replace BK262 := am_ (lb_ BK262 hb); replace HB := am_ (below_step (bb1_ HB GE262) hb); (try clear hb); (try clear hb2); (try clear hk); (try clear hi); have hcz23_0 := cz0_ BK262; have hcz23_1 := cz1_ BK262; have hcz23_2 := cz2_ BK262; have hcz23_3 := cz3_ BK262; have hcz23_4 := cz4_ BK262; have hcz23_5 := cz5_ BK262; have hcz23_6 := cz6_ BK262; have hcz23_7 := cz7_ BK262; have hcz23_8 := cz8_ BK262; have hcz23_9 := cz9_ BK262; have hcz23_10 := cz10_ BK262; have hcz23_11 := cz11_ BK262; have hcz23_12 := cz12_ BK262) | (go_at_call 87; (with_reducible refine (impl_IsPlace.calls a0_8 a0_9 a0_10 false _ A6.out).mono ?_); rintro e w24 ⟨rfl, hb⟩; replace BK262 := am_ (lb_ BK262 hb); replace HB := am_ (below_step (bb1_ HB GE262) hb); (try clear hb); (try clear hb2); (try clear hk); (try clear hi)))
    go_ret
    exact ⟨ew_, bb1_ HB GE262⟩
  ·replace c5 := Bool.eq_false_iff.mpr c5
   subst c5
   have H1 : (some false) = some r := by rw [if_neg (show ¬ (false = true) by decide)] at H; exact H
   clear H
   have H := H1
   clear H1
   obtain rfl := Option.some.inj H
   go_enter Tryz.func51, Tryz.ntmps51
   go_wp2_with (first | ((with_reducible refine gate_dst (N := 1) rfl ?_); refine bx_ (cs := #[.int .i64 a0_0, .int .i64 a0_1, .int .i64 a0_2, .int .i64 a0_3, .int .i64 a0_4, .bool a0_5, .int .i64 a0_6, .int .i64 a0_7, .int .i64 a0_8, .int .i64 a0_9, .bool a0_10, .string a0_11, .int .i64 a0_12]) (t := 42) ?_; intro gb262 hg w25 hbox hb; have BK262 := am_ (hbox); have GW262 := gz_ hg HB; have GE262 := gz_ hg HB; replace HB := am_ (bt_ HB hb); clear hb hbox hg; have hcz26_0 := cz0_ BK262; have hcz26_1 := cz1_ BK262; have hcz26_2 := cz2_ BK262; have hcz26_3 := cz3_ BK262; have hcz26_4 := cz4_ BK262; have hcz26_5 := cz5_ BK262; have hcz26_6 := cz6_ BK262; have hcz26_7 := cz7_ BK262; have hcz26_8 := cz8_ BK262; have hcz26_9 := cz9_ BK262; have hcz26_10 := cz10_ BK262; have hcz26_11 := cz11_ BK262; have hcz26_12 := cz12_ BK262) | ((with_reducible refine gate_callee (f := 85) rfl ?_); refine goesL_ (some 5) rfl rfl Tryz.func85 (by kernel_rfl) rfl #[.agg #[.int .i64 a0_0, .int .i64 a0_1, .int .i64 a0_2, .int .i64 a0_3, .int .i64 a0_4, .bool a0_5]] rfl args_ ?_; (with_reducible refine (impl_IsShape.calls (w := _) (h := A2.out)).mono ?_); rintro e w27 ⟨rfl, hb⟩; refine ⟨_, rfl, ?_⟩; replace BK262 := am_ (lb_ BK262 hb); replace HB := am_ (below_step (bb1_ HB GE262) hb); (try clear hb); (try clear hb2); (try clear hk); (try clear hi); have hcz28_0 := cz0_ BK262; have hcz28_1 := cz1_ BK262; have hcz28_2 := cz2_ BK262; have hcz28_3 := cz3_ BK262; have hcz28_4 := cz4_ BK262; have hcz28_5 := cz5_ BK262; have hcz28_6 := cz6_ BK262; have hcz28_7 := cz7_ BK262; have hcz28_8 := cz8_ BK262; have hcz28_9 := cz9_ BK262; have hcz28_10 := cz10_ BK262; have hcz28_11 := cz11_ BK262; have hcz28_12 := cz12_ BK262) | (go_at_call 86; (with_reducible refine (impl_IsOrient.calls a0_6 a0_7 false _ A4.out).mono ?_); rintro e w29 ⟨rfl, hb⟩; replace BK262 := am_ (lb_ BK262 hb); replace HB := am_ (below_step (bb1_ HB GE262) hb); (try clear hb); (try clear hb2); (try clear hk); (try clear hi)))
   go_ret
   exact ⟨ew_, bb1_ HB GE262⟩
 ·replace c3 := Bool.eq_false_iff.mpr c3
  subst c3
  have H1 : (some false) = some r := by rw [if_neg (show ¬ (false = true) by decide)] at H; exact H
  clear H
  have H := H1
  clear H1
  obtain rfl := Option.some.inj H
  go_enter Tryz.func51, Tryz.ntmps51
  go_wp2_with (first | ((with_reducible refine gate_dst (N := 1) rfl ?_); refine bx_ (cs := #[.int .i64 a0_0, .int .i64 a0_1, .int .i64 a0_2, .int .i64 a0_3, .int .i64 a0_4, .bool a0_5, .int .i64 a0_6, .int .i64 a0_7, .int .i64 a0_8, .int .i64 a0_9, .bool a0_10, .string a0_11, .int .i64 a0_12]) (t := 42) ?_; intro gb262 hg w30 hbox hb; have BK262 := am_ (hbox); have GW262 := gz_ hg HB; have GE262 := gz_ hg HB; replace HB := am_ (bt_ HB hb); clear hb hbox hg; have hcz31_0 := cz0_ BK262; have hcz31_1 := cz1_ BK262; have hcz31_2 := cz2_ BK262; have hcz31_3 := cz3_ BK262; have hcz31_4 := cz4_ BK262; have hcz31_5 := cz5_ BK262; have hcz31_6 := cz6_ BK262; have hcz31_7 := cz7_ BK262; have hcz31_8 := cz8_ BK262; have hcz31_9 := cz9_ BK262; have hcz31_10 := cz10_ BK262; have hcz31_11 := cz11_ BK262; have hcz31_12 := cz12_ BK262) | ((with_reducible refine gate_callee (f := 85) rfl ?_); refine goesL_ (some 5) rfl rfl Tryz.func85 (by kernel_rfl) rfl #[.agg #[.int .i64 a0_0, .int .i64 a0_1, .int .i64 a0_2, .int .i64 a0_3, .int .i64 a0_4, .bool a0_5]] rfl args_ ?_; (with_reducible refine (impl_IsShape.calls (w := _) (h := A2.out)).mono ?_); rintro e w32 ⟨rfl, hb⟩; refine ⟨_, rfl, ?_⟩; replace BK262 := am_ (lb_ BK262 hb); replace HB := am_ (below_step (bb1_ HB GE262) hb); clear hb))
  go_ret
  exact ⟨ew_, bb1_ HB GE262⟩

/-! ### impl_Hand_moves: function 89 -/
def impl_Hand_moves.f (a0_0 a0_1 : Int) (a0_2 a0_3 a0_4 : Int) (a0_5 : Bool) (a0_6 a0_7 : Int) (a0_8 a0_9 : Int) (a0_10 : Bool) (a0_11 : ByteArray) (a0_12 : Int) : Option (Bool) := some (a0_11.toList != ([] : List UInt8))
set_option maxHeartbeats 8000000 in
set_option maxRecDepth 100000 in
theorem impl_Hand_moves.calls (a0_0 a0_1 : Int) (a0_2 a0_3 a0_4 : Int) (a0_5 : Bool) (a0_6 a0_7 : Int) (a0_8 a0_9 : Int) (a0_10 : Bool) (a0_11 : ByteArray) (a0_12 : Int) (r : Bool) (w : World) (h : impl_Hand_moves.f a0_0 a0_1 a0_2 a0_3 a0_4 a0_5 a0_6 a0_7 a0_8 a0_9 a0_10 a0_11 a0_12 = some r) :
  Calls Tryz.prog 89 #[.agg #[.int .i64 a0_0, .int .i64 a0_1, .int .i64 a0_2, .int .i64 a0_3, .int .i64 a0_4, .bool a0_5, .int .i64 a0_6, .int .i64 a0_7, .int .i64 a0_8, .int .i64 a0_9, .bool a0_10, .string a0_11, .int .i64 a0_12]] w fun e w' => e = .returned (.bool r) ∧ Below w.heap.size w w' := by
 have hu42 := Tryz.underlying42
 have HB := am_ (Below.refl w.heap.size w)
 have H : (some (a0_11.toList != ([] : List UInt8))) = some r := h
 clear h
 obtain rfl := Option.some.inj H
 go_enter Tryz.func89, Tryz.ntmps89
 go_wp2_with (first | ((with_reducible refine gate_dst (N := 1) rfl ?_); refine bx_ (cs := #[.int .i64 a0_0, .int .i64 a0_1, .int .i64 a0_2, .int .i64 a0_3, .int .i64 a0_4, .bool a0_5, .int .i64 a0_6, .int .i64 a0_7, .int .i64 a0_8, .int .i64 a0_9, .bool a0_10, .string a0_11, .int .i64 a0_12]) (t := 42) ?_; intro gb267 hg w2 hbox hb; have BK267 := am_ (hbox); have GW267 := gz_ hg HB; have GE267 := gz_ hg HB; replace HB := am_ (bt_ HB hb); clear hb hbox hg; have hcz3_0 := cz0_ BK267; have hcz3_1 := cz1_ BK267; have hcz3_2 := cz2_ BK267; have hcz3_3 := cz3_ BK267; have hcz3_4 := cz4_ BK267; have hcz3_5 := cz5_ BK267; have hcz3_6 := cz6_ BK267; have hcz3_7 := cz7_ BK267; have hcz3_8 := cz8_ BK267; have hcz3_9 := cz9_ BK267; have hcz3_10 := cz10_ BK267; have hcz3_11 := cz11_ BK267; have hcz3_12 := cz12_ BK267))
 go_ret
 exact ⟨by first | rfl | (generalize a0_11.toList = x_; cases x_ <;> rfl) | (simp [errW_none, errW_some] <;> rfl) | (simp [*, errW_none, errW_some] <;> rfl), bb1_ HB GE267⟩

/-! ### impl_Shape_124: function 124 -/
def impl_Shape_124.l0 : Nat → List (S37) → Int → Int → Int → Int → Int → Int → Int → Bool → Option (Int)
 | 0, _, _, _, _, _, _, _, _, _ => none
 | k + 1, x0, x7, x8, x269000, x269001, x269002, x269003, x269004, x269005 => if x8 < x7 then (if 0 ≤ x8 then (if x8 < (x0.length : Int) then (if (x269000 == ((rd_T37 x0 x8).f0) && (x269001 == ((rd_T37 x0 x8).f1) && (x269002 == ((rd_T37 x0 x8).f2) && (x269003 == ((rd_T37 x0 x8).f3) && (x269004 == ((rd_T37 x0 x8).f4) && (x269005 == ((rd_T37 x0 x8).f5))))))) = true then (some x8) else (impl_Shape_124.l0 k x0 x7 (wrap64 (x8 + 1)) x269000 x269001 x269002 x269003 x269004 x269005)) else (none)) else (none)) else (some (-1))
def impl_Shape_124.f (k : Nat) (l0 : List (S37)) (a1_0 a1_1 : Int) (a1_2 a1_3 a1_4 : Int) (a1_5 : Bool) : Option (Int) := impl_Shape_124.l0 k l0 (l0.length : Int) 0 a1_0 a1_1 a1_2 a1_3 a1_4 a1_5
theorem impl_Shape_124.mono_l : ∀ k, (∀ y0 y1 y2 y3 y4 y5 y6 y7 y8, LeO (impl_Shape_124.l0 k y0 y1 y2 y3 y4 y5 y6 y7 y8) (impl_Shape_124.l0 (k + 1) y0 y1 y2 y3 y4 y5 y6 y7 y8))
 | 0 => fun _ _ _ _ _ _ _ _ _ r h => by simp [impl_Shape_124.l0] at h
 | k + 1 => by
  have ih0 := impl_Shape_124.mono_l k
  ·intro y0 y1 y2 y3 y4 y5 y6 y7 y8
   unfold impl_Shape_124.l0
   repeat' first
   | (with_reducible exact ih0 _ _ _ _ _ _ _ _ _)
   | (with_reducible exact LeO.refl _)
   | (with_reducible exact LeO.none _)
   | (with_reducible refine LeO.ite ?_ ?_)
   | (with_reducible refine LeO.bind ?_ (fun _ => ?_))
   | exact ih0 _ _ _ _ _ _ _ _ _
   | exact LeO.none _
   | refine LeO.ite ?_ ?_
   | refine LeO.bind ?_ (fun _ => ?_)
theorem impl_Shape_124.mono : ∀ a0 a1 a2 a3 a4 a5 a6 k, LeO (impl_Shape_124.f k a0 a1 a2 a3 a4 a5 a6) (impl_Shape_124.f (k + 1) a0 a1 a2 a3 a4 a5 a6) := by
 intro a0 a1 a2 a3 a4 a5 a6 k
 have ih0 := impl_Shape_124.mono_l k
 unfold impl_Shape_124.f
 repeat' first
   | (with_reducible exact ih0 _ _ _ _ _ _ _ _ _)
   | (with_reducible exact LeO.refl _)
   | (with_reducible exact LeO.none _)
   | (with_reducible refine LeO.ite ?_ ?_)
   | (with_reducible refine LeO.bind ?_ (fun _ => ?_))
   | exact ih0 _ _ _ _ _ _ _ _ _
   | exact LeO.none _
   | refine LeO.ite ?_ ?_
   | refine LeO.bind ?_ (fun _ => ?_)
set_option maxHeartbeats 8000000 in
set_option maxRecDepth 100000 in
theorem impl_Shape_124.calls (k : Nat) (A0 : Option Addr) (c0 : Nat) (l0 : List (S37)) (a1_0 a1_1 : Int) (a1_2 a1_3 a1_4 : Int) (a1_5 : Bool) (r : Int) (w : World) (hr0 : Kd.C k37 w A0 l0.length l0) (hc0 : l0.length ≤ c0) (h : impl_Shape_124.f k l0 a1_0 a1_1 a1_2 a1_3 a1_4 a1_5 = some r) :
  Calls Tryz.prog 124 #[.slice A0 l0.length c0, .agg #[.int .i64 a1_0, .int .i64 a1_1, .int .i64 a1_2, .int .i64 a1_3, .int .i64 a1_4, .bool a1_5]] w fun e w' => e = .returned (.int .i64 r) ∧ Below w.heap.size w w' := by
 have hu37 := Tryz.underlying37
 have HR0 := Aside0.mk hr0
 have HC0 := Aside0.mk hc0
 clear hr0 hc0
 have HB := am_ (Below.refl w.heap.size w)
 have H : (impl_Shape_124.l0 k l0 (l0.length : Int) 0 a1_0 a1_1 a1_2 a1_3 a1_4 a1_5) = some r := h
 clear h
 have H' := Aside0.mk H
 clear H
 go_enter Tryz.func124, Tryz.ntmps124
 go_wp2_with (first | ((with_reducible refine gate_dst (N := 3) rfl ?_); refine bx_ (cs := #[.int .i64 a1_0, .int .i64 a1_1, .int .i64 a1_2, .int .i64 a1_3, .int .i64 a1_4, .bool a1_5]) (t := 37) ?_; intro gb268 hg w3 hbox hb; have BK268 := am_ (hbox); have GW268 := gz_ hg HB; have GE268 := gz_ hg HB; replace HB := am_ (bt_ HB hb); clear hb hbox hg))
 repeat (go_quiet (first | ((with_reducible refine gate_dst (N := 3) rfl ?_); refine bx_ (cs := #[.int .i64 a1_0, .int .i64 a1_1, .int .i64 a1_2, .int .i64 a1_3, .int .i64 a1_4, .bool a1_5]) (t := 37) ?_; intro gb268 hg w3 hbox hb; have BK268 := am_ (hbox); have GW268 := gz_ hg HB; have GE268 := gz_ hg HB; replace HB := am_ (bt_ HB hb); clear hb hbox hg)); try go_wp2_with (first | ((with_reducible refine gate_dst (N := 3) rfl ?_); refine bx_ (cs := #[.int .i64 a1_0, .int .i64 a1_1, .int .i64 a1_2, .int .i64 a1_3, .int .i64 a1_4, .bool a1_5]) (t := 37) ?_; intro gb268 hg w3 hbox hb; have BK268 := am_ (hbox); have GW268 := gz_ hg HB; have GE268 := gz_ hg HB; replace HB := am_ (bt_ HB hb); clear hb hbox hg)))
 go_loopg [8] k (fun kq v8 w' => ∃ (x8_1 : Int), v8 = .int .i64 x8_1 ∧ Aside0 (impl_Shape_124.l0 kq l0 (l0.length : Int) x8_1 a1_0 a1_1 a1_2 a1_3 a1_4 a1_5 = some r) ∧ Aside0 (kq ≤ k) ∧ Aside0 (w'.heap[gb268]? = some (.cells #[.int .i64 a1_0, .int .i64 a1_1, .int .i64 a1_2, .int .i64 a1_3, .int .i64 a1_4, .bool a1_5] 37 (0, 0))) ∧ Aside0 (Below w.heap.size w w'))
 case atStart => exact ⟨(0), (by first | rfl | (simp; done) | (simp [*]; done)), H', ⟨Nat.le_refl _⟩, ⟨by (with_reducible repeat (first | apply lN_ | apply lD_ | apply lA_)); exact BK268.out⟩, ⟨bb1_ HB GE268⟩⟩
 case round =>
  clear H'
  try clear c1
  try clear p2
  obtain ⟨x8_1, rfl, HA, HK1, BK268, HB⟩ := hrel
  cases gk with
  | zero => exact absurd HA.out (by simp [impl_Shape_124.l0])
  | succ k1 =>
   have H := HA.out
   clear HA
   simp only [impl_Shape_124.l0] at H
   by_cases c4 : x8_1 < (l0.length : Int)
   ·rw [if_pos c4] at H
    have c4b0 : decide (x8_1 < (l0.length : Int)) = true := decide_eq_true c4
    clear c4
    by_cases c5 : 0 ≤ x8_1
    ·rw [if_pos c5] at H
     have c5b0 : decide (0 ≤ x8_1) = true := decide_eq_true c5
     clear c5
     by_cases c6 : x8_1 < (l0.length : Int)
     ·rw [if_pos c6] at H
      have c6b0 : decide (x8_1 < (l0.length : Int)) = true := decide_eq_true c6
      clear c6
      by_cases c7 : (a1_0 == ((rd_T37 l0 x8_1).f0) && (a1_1 == ((rd_T37 l0 x8_1).f1) && (a1_2 == ((rd_T37 l0 x8_1).f2) && (a1_3 == ((rd_T37 l0 x8_1).f3) && (a1_4 == ((rd_T37 l0 x8_1).f4) && (a1_5 == ((rd_T37 l0 x8_1).f5))))))) = true
      ·rw [if_pos c7] at H
       have c7b0 : (a1_0 == ((rd_T37 l0 x8_1).f0) && (a1_1 == ((rd_T37 l0 x8_1).f1) && (a1_2 == ((rd_T37 l0 x8_1).f2) && (a1_3 == ((rd_T37 l0 x8_1).f3) && (a1_4 == ((rd_T37 l0 x8_1).f4) && (a1_5 == ((rd_T37 l0 x8_1).f5))))))) = true := c7
       (try (have c7b1 : decide (a1_0 = ((rd_T37 l0 x8_1).f0) && (a1_1 == ((rd_T37 l0 x8_1).f1) && (a1_2 == ((rd_T37 l0 x8_1).f2) && (a1_3 == ((rd_T37 l0 x8_1).f3) && (a1_4 == ((rd_T37 l0 x8_1).f4) && (a1_5 == ((rd_T37 l0 x8_1).f5))))))) = true := by simpa using c7))
       (try (have c7b2 : (a1_0 == ((rd_T37 l0 x8_1).f0) && (a1_1 == ((rd_T37 l0 x8_1).f1) && (a1_2 == ((rd_T37 l0 x8_1).f2) && (a1_3 == ((rd_T37 l0 x8_1).f3) && (a1_4 == ((rd_T37 l0 x8_1).f4) && (a1_5 == ((rd_T37 l0 x8_1).f5))))))) = true := by simpa using c7))
       clear c7
       obtain rfl := Option.some.inj H
       have hcz8_0 := cz0_ BK268
       have hcz8_1 := cz1_ BK268
       have hcz8_2 := cz2_ BK268
       have hcz8_3 := cz3_ BK268
       have hcz8_4 := cz4_ BK268
       have hcz8_5 := cz5_ BK268
       have p269 : 0 ≤ (x8_1 : Int) := of_decide_eq_true as_
       have q269 : x8_1 < (l0.length : Int) := of_decide_eq_true as_
       obtain ⟨ad269, e269, hx269_0, hx269_1, hx269_2, hx269_3, hx269_4, hx269_5⟩ := at_T37 HR0.out x8_1 p269 q269
       cases e269
       replace hx269_0 := hc_ HB hx269_0
       replace hx269_1 := hc_ HB hx269_1
       replace hx269_2 := hc_ HB hx269_2
       replace hx269_3 := hc_ HB hx269_3
       replace hx269_4 := hc_ HB hx269_4
       replace hx269_5 := hc_ HB hx269_5
       replace p269 := eq_true p269
       replace q269 := eq_true q269
       go_wp2
       repeat (go_quiet (fail); try go_wp2)
       go_ret
       exact ⟨ew_, bb1_ HB GE268⟩
      ·rw [if_neg c7] at H
       have c7b0 : (a1_0 == ((rd_T37 l0 x8_1).f0) && (a1_1 == ((rd_T37 l0 x8_1).f1) && (a1_2 == ((rd_T37 l0 x8_1).f2) && (a1_3 == ((rd_T37 l0 x8_1).f3) && (a1_4 == ((rd_T37 l0 x8_1).f4) && (a1_5 == ((rd_T37 l0 x8_1).f5))))))) = false := by simpa using c7
       (try (have c7b1 : decide (a1_0 = ((rd_T37 l0 x8_1).f0) && (a1_1 == ((rd_T37 l0 x8_1).f1) && (a1_2 == ((rd_T37 l0 x8_1).f2) && (a1_3 == ((rd_T37 l0 x8_1).f3) && (a1_4 == ((rd_T37 l0 x8_1).f4) && (a1_5 == ((rd_T37 l0 x8_1).f5))))))) = false := by simpa using c7))
       (try (have c7b2 : (a1_0 == ((rd_T37 l0 x8_1).f0) && (a1_1 == ((rd_T37 l0 x8_1).f1) && (a1_2 == ((rd_T37 l0 x8_1).f2) && (a1_3 == ((rd_T37 l0 x8_1).f3) && (a1_4 == ((rd_T37 l0 x8_1).f4) && (a1_5 == ((rd_T37 l0 x8_1).f5))))))) = false := by simpa using c7))
       (try (have c7b3 : ¬ (a1_0 = ((rd_T37 l0 x8_1).f0) && (a1_1 == ((rd_T37 l0 x8_1).f1) && (a1_2 == ((rd_T37 l0 x8_1).f2) && (a1_3 == ((rd_T37 l0 x8_1).f3) && (a1_4 == ((rd_T37 l0 x8_1).f4) && (a1_5 == ((rd_T37 l0 x8_1).f5))))))) := by simpa using c7))
       clear c7
       have H' := Aside0.mk H
       clear H
       have hcz9_0 := cz0_ BK268
       have hcz9_1 := cz1_ BK268
       have hcz9_2 := cz2_ BK268
       have hcz9_3 := cz3_ BK268
       have hcz9_4 := cz4_ BK268
       have hcz9_5 := cz5_ BK268
       have p269 : 0 ≤ (x8_1 : Int) := of_decide_eq_true as_
       have q269 : x8_1 < (l0.length : Int) := of_decide_eq_true as_
       obtain ⟨ad269, e269, hx269_0, hx269_1, hx269_2, hx269_3, hx269_4, hx269_5⟩ := at_T37 HR0.out x8_1 p269 q269
       cases e269
       replace hx269_0 := hc_ HB hx269_0
       replace hx269_1 := hc_ HB hx269_1
       replace hx269_2 := hc_ HB hx269_2
       replace hx269_3 := hc_ HB hx269_3
       replace hx269_4 := hc_ HB hx269_4
       replace hx269_5 := hc_ HB hx269_5
       replace p269 := eq_true p269
       replace q269 := eq_true q269
       go_wp2
       repeat (go_quiet (fail); try go_wp2)
       go_roundg k1
       case measure => have := HK1.out; omega
       case rel => exact ⟨(wrap64 (x8_1 + 1)), (by first | rfl | (simp; done) | (simp [*]; done)), H', ⟨by have := HK1.out; omega⟩, ⟨by (with_reducible repeat (first | apply lN_ | apply lD_ | apply lA_)); exact BK268.out⟩, ⟨bb1_ HB GE268⟩⟩
     ·rw [if_neg c6] at H
      exact absurd H (by simp)
    ·rw [if_neg c5] at H
     exact absurd H (by simp)
   ·rw [if_neg c4] at H
    have c4b0 : decide (x8_1 < (l0.length : Int)) = false := decide_eq_false c4
    clear c4
    obtain rfl := Option.some.inj H
    go_wp2
    repeat (go_quiet (fail); try go_wp2)
    go_ret
    exact ⟨ew_, bb1_ HB GE268⟩

/-! ### impl_Shape_90: function 90 -/
def impl_Shape_90.f (k : Nat) (l0 : List (S37)) (a1_0 a1_1 : Int) (a1_2 a1_3 a1_4 : Int) (a1_5 : Bool) : Option (Bool) := (impl_Shape_124.f k l0 a1_0 a1_1 a1_2 a1_3 a1_4 a1_5).bind fun t271 => (some (decide (t271 ≥ 0)))
theorem impl_Shape_90.mono : ∀ a0 a1 a2 a3 a4 a5 a6 k, LeO (impl_Shape_90.f k a0 a1 a2 a3 a4 a5 a6) (impl_Shape_90.f (k + 1) a0 a1 a2 a3 a4 a5 a6) := by
 intro a0 a1 a2 a3 a4 a5 a6 k
 unfold impl_Shape_90.f
 repeat' first
   | (with_reducible exact impl_Shape_124.mono _ _ _ _ _ _ _ _)
   | (with_reducible exact LeO.refl _)
   | (with_reducible exact LeO.none _)
   | (with_reducible refine LeO.ite ?_ ?_)
   | (with_reducible refine LeO.bind ?_ (fun _ => ?_))
   | exact LeO.none _
   | refine LeO.ite ?_ ?_
   | refine LeO.bind ?_ (fun _ => ?_)
set_option maxHeartbeats 8000000 in
set_option maxRecDepth 100000 in
theorem impl_Shape_90.calls (k : Nat) (A0 : Option Addr) (c0 : Nat) (l0 : List (S37)) (a1_0 a1_1 : Int) (a1_2 a1_3 a1_4 : Int) (a1_5 r : Bool) (w : World) (hr0 : Kd.C k37 w A0 l0.length l0) (hc0 : l0.length ≤ c0) (h : impl_Shape_90.f k l0 a1_0 a1_1 a1_2 a1_3 a1_4 a1_5 = some r) :
  Calls Tryz.prog 90 #[.slice A0 l0.length c0, .agg #[.int .i64 a1_0, .int .i64 a1_1, .int .i64 a1_2, .int .i64 a1_3, .int .i64 a1_4, .bool a1_5]] w fun e w' => e = .returned (.bool r) ∧ Below w.heap.size w w' := by
 have hu37 := Tryz.underlying37
 have HR0 := Aside0.mk hr0
 have HC0 := Aside0.mk hc0
 clear hr0 hc0
 have HB := am_ (Below.refl w.heap.size w)
 have H : ((impl_Shape_124.f k l0 a1_0 a1_1 a1_2 a1_3 a1_4 a1_5).bind fun t271 => (some (decide (t271 ≥ 0)))) = some r := h
 clear h
 replace H := Option.bind_eq_some_iff.mp H
 obtain ⟨t271, A30, H⟩ := H
 try dsimp only at H
 have A3 := Aside0.mk A30
 clear A30
 obtain rfl := Option.some.inj H
 go_enter Tryz.func90, Tryz.ntmps90
 go_wp2_with (first | ((with_reducible refine gate_dst (N := 3) rfl ?_); refine bx_ (cs := #[.int .i64 a1_0, .int .i64 a1_1, .int .i64 a1_2, .int .i64 a1_3, .int .i64 a1_4, .bool a1_5]) (t := 37) ?_; intro gb270 hg w4 hbox hb; have BK270 := am_ (hbox); have GW270 := gz_ hg HB; have GE270 := gz_ hg HB; replace HB := am_ (bt_ HB hb); clear hb hbox hg; have hcz5_0 := cz0_ BK270; have hcz5_1 := cz1_ BK270; have hcz5_2 := cz2_ BK270; have hcz5_3 := cz3_ BK270; have hcz5_4 := cz4_ BK270; have hcz5_5 := cz5_ BK270) | ((with_reducible refine gate_callee (f := 124) rfl ?_); refine goesL_ (some 7) rfl rfl Tryz.func124 (by kernel_rfl) rfl #[.slice A0 l0.length c0, .agg #[.int .i64 a1_0, .int .i64 a1_1, .int .i64 a1_2, .int .i64 a1_3, .int .i64 a1_4, .bool a1_5]] rfl args_ ?_; (with_reducible refine (impl_Shape_124.calls k _ _ l0 a1_0 a1_1 a1_2 a1_3 a1_4 a1_5 t271 _ ?side1 ?side2 A3.out).mono ?_); (case side1 => exact cb_ HR0 HB); (case side2 => exact HC0.out); rintro e w6 ⟨rfl, hb⟩; refine ⟨_, rfl, ?_⟩; replace BK270 := am_ (lb_ BK270 hb); replace HB := am_ (below_step (bb1_ HB GE270) hb); clear hb))
 go_ret
 exact ⟨ew_, bb1_ HB GE270⟩

/-! ### strconv_Itoa: function 137 -/
/-- The digits, and the pairs of digits, as the library lays them. -/
def itA : ByteArray := ⟨#[48, 49, 50, 51, 52, 53, 54, 55, 56, 57, 97, 98, 99, 100, 101, 102, 103, 104, 105, 106, 107, 108, 109, 110, 111, 112, 113, 114, 115, 116, 117, 118, 119, 120, 121, 122]⟩
def itB : ByteArray := ⟨#[48, 48, 48, 49, 48, 50, 48, 51, 48, 52, 48, 53, 48, 54, 48, 55, 48, 56, 48, 57, 49, 48, 49, 49, 49, 50, 49, 51, 49, 52, 49, 53, 49, 54, 49, 55, 49, 56, 49, 57, 50, 48, 50, 49, 50, 50, 50, 51, 50, 52, 50, 53, 50, 54, 50, 55, 50, 56, 50, 57, 51, 48, 51, 49, 51, 50, 51, 51, 51, 52, 51, 53, 51, 54, 51, 55, 51, 56, 51, 57, 52, 48, 52, 49, 52, 50, 52, 51, 52, 52, 52, 53, 52, 54, 52, 55, 52, 56, 52, 57, 53, 48, 53, 49, 53, 50, 53, 51, 53, 52, 53, 53, 53, 54, 53, 55, 53, 56, 53, 57, 54, 48, 54, 49, 54, 50, 54, 51, 54, 52, 54, 53, 54, 54, 54, 55, 54, 56, 54, 57, 55, 48, 55, 49, 55, 50, 55, 51, 55, 52, 55, 53, 55, 54, 55, 55, 55, 56, 55, 57, 56, 48, 56, 49, 56, 50, 56, 51, 56, 52, 56, 53, 56, 54, 56, 55, 56, 56, 56, 57, 57, 48, 57, 49, 57, 50, 57, 51, 57, 52, 57, 53, 57, 54, 57, 55, 57, 56, 57, 57]⟩
/-- The text of a number below 100. -/
def itT (n : Int) : ByteArray := if n < 10 then itA.extract n.toNat (n + 1).toNat else itB.extract (n * 2).toNat (n * 2 + 2).toNat
set_option maxHeartbeats 4000000 in
set_option maxRecDepth 100000 in
theorem itSmall (n : Int) (w : World) (h0 : 0 ≤ n) (h1 : n < 100) : Calls Tryz.prog 167 #[.int .i64 n] w fun e w' => e = .returned (.string (itT n)) ∧ Drawn0 w w' := by
 have e1 : IntKind.i64.wrap (n + 1) = n + 1 := by simp [IntKind.wrap, IntKind.bits, IntKind.signed]; omega
 have e2 : IntKind.i64.wrap (n * 2) = n * 2 := by simp [IntKind.wrap, IntKind.bits, IntKind.signed]; omega
 have e3 : IntKind.i64.wrap (n * 2 + 2) = n * 2 + 2 := by simp [IntKind.wrap, IntKind.bits, IntKind.signed]; omega
 by_cases h : n < 10
 ·have c0 : decide (n < 10) = true := decide_eq_true h
  have c1 : itT n = itA.extract n.toNat (n + 1).toNat := if_pos h
  have b0 : (0 ≤ n) = True := eq_true h0
  have b1 : (n ≤ n + 1) = True := eq_true (by omega)
  have b2 : (n + 1 ≤ 36) = True := eq_true (by omega)
  have b3 : decide (0 ≤ n) = true := decide_eq_true h0
  have b4 : decide (n ≤ n + 1) = true := decide_eq_true (by omega)
  have b5 : decide (n + 1 ≤ 36) = true := decide_eq_true (by omega)
  rw [c1]
  clear h c1 h0 h1
  go_enter Tryz.func167, Tryz.ntmps167
  go_wp2
  go_ret
  exact ⟨by first | rfl | (simp [itA]; done), by repeat (first | exact Drawn0.refl _ | apply Drawn0.step)⟩
 ·have c0 : decide (n < 10) = false := decide_eq_false h
  have c1 : itT n = itB.extract (n * 2).toNat (n * 2 + 2).toNat := if_neg h
  have b0 : (0 ≤ n * 2) = True := eq_true (by omega)
  have b1 : (n * 2 ≤ n * 2 + 2) = True := eq_true (by omega)
  have b2 : (n * 2 + 2 ≤ 200) = True := eq_true (by omega)
  have b3 : decide (0 ≤ n * 2) = true := decide_eq_true (by omega)
  have b4 : decide (n * 2 ≤ n * 2 + 2) = true := decide_eq_true (by omega)
  have b5 : decide (n * 2 + 2 ≤ 200) = true := decide_eq_true (by omega)
  rw [c1]
  clear h c1 h0 h1
  go_enter Tryz.func167, Tryz.ntmps167
  go_wp2
  go_ret
  exact ⟨by first | rfl | (simp [itB]; done), by repeat (first | exact Drawn0.refl _ | apply Drawn0.step)⟩
set_option maxHeartbeats 4000000 in
set_option maxRecDepth 100000 in
theorem itFormat (n : Int) (w : World) (h0 : 0 ≤ n) (h1 : n < 100) : Calls Tryz.prog 159 #[.int .i64 n, .int .i64 10] w fun e w' => e = .returned (.string (itT n)) ∧ Drawn0 w w' := by
 have HS := am_ (fun W => itSmall n W h0 h1)
 have e1 : IntKind.i64.wrap n = n := by simp [IntKind.wrap, IntKind.bits, IntKind.signed]; omega
 have c0 : decide (0 ≤ n) = true := decide_eq_true h0
 have c1 : decide (n < 100) = true := decide_eq_true h1
 clear h0 h1
 go_enter Tryz.func159, Tryz.ntmps159
 go_wp2_with (go_at_call 167; refine (HS.out _).mono ?_; rintro e wq ⟨rfl, ⟨nd, rfl⟩⟩)
 go_ret
 exact ⟨by first | rfl | (simp; done), by repeat (first | exact Drawn0.refl _ | apply Drawn0.step)⟩
set_option maxHeartbeats 4000000 in
set_option maxRecDepth 100000 in
theorem itIn (n : Int) (w : World) (h0 : 0 ≤ n) (h1 : n < 100) : Calls Tryz.prog 150 #[.int .i64 n] w fun e w' => e = .returned (.string (itT n)) ∧ Drawn0 w w' := by
 have HS := am_ (fun W => itFormat n W h0 h1)
 have e1 : IntKind.i64.wrap n = n := by simp [IntKind.wrap, IntKind.bits, IntKind.signed]; omega
 clear h0 h1
 go_enter Tryz.func150, Tryz.ntmps150
 go_wp2_with (go_at_call 159; refine (HS.out _).mono ?_; rintro e wq ⟨rfl, ⟨nd, rfl⟩⟩)
 go_ret
 exact ⟨by first | rfl | (simp; done), by repeat (first | exact Drawn0.refl _ | apply Drawn0.step)⟩
def strconv_Itoa.f (a0 : Int) : Option ByteArray := if 0 ≤ a0 ∧ a0 < 100 then some (itT a0) else none
set_option maxHeartbeats 4000000 in
set_option maxRecDepth 100000 in
theorem strconv_Itoa.calls (a0 : Int) (r : ByteArray) (w : World) (h : strconv_Itoa.f a0 = some r) : Calls Tryz.prog 137 #[.int .i64 a0] w fun e w' => e = .returned (.string r) ∧ Drawn0 w w' := by
 unfold strconv_Itoa.f at h
 by_cases hn : 0 ≤ a0 ∧ a0 < 100
 ·rw [if_pos hn] at h
  obtain rfl := Option.some.inj h
  have HS := am_ (fun W => itIn a0 W hn.1 hn.2)
  clear h hn
  go_enter Tryz.func137, Tryz.ntmps137
  go_wp2_with (go_at_call 150; refine (HS.out _).mono ?_; rintro e wq ⟨rfl, ⟨nd, rfl⟩⟩)
  go_ret
  exact ⟨by first | rfl | (simp; done), by repeat (first | exact Drawn0.refl _ | apply Drawn0.step)⟩
 ·rw [if_neg hn] at h; exact absurd h (by simp)

/-! ### impl_Shape_text: function 110 -/
def impl_Shape_text.l0 : Nat → ByteArray → List Int → Int → Int → Int → Int → Int → Int → Int → Bool → Option (ByteArray)
 | 0, _, _, _, _, _, _, _, _, _, _ => none
 | k + 1, x3, x10, x11, x12, x273000, x273001, x273002, x273003, x273004, x273005 => if x12 < x11 then (if 0 ≤ x12 then (if x12 < (x10.length : Int) then ((strconv_Itoa.f (rd x10 x12)).bind fun t278 => (if x3.size + t278.size ≤ 9223372036854775807 then (impl_Shape_text.l0 k (x3 ++ t278) x10 x11 (wrap64 (x12 + 1)) x273000 x273001 x273002 x273003 x273004 x273005) else (none))) else (none)) else (none)) else (if x273005 = true then (if x3.size + 1 ≤ 9223372036854775807 then (some (x3 ++ (⟨#[115]⟩ : ByteArray))) else (none)) else (some x3))
def impl_Shape_text.f (k : Nat) (a0_0 a0_1 : Int) (a0_2 a0_3 a0_4 : Int) (a0_5 : Bool) : Option (ByteArray) := (strconv_Itoa.f a0_0).bind fun t273 => ((impl_Shape_bends.f a0_0 a0_1 a0_2 a0_3 a0_4 a0_5).bind fun t274 => (impl_Shape_text.l0 k t273 t274 (t274.length : Int) 0 a0_0 a0_1 a0_2 a0_3 a0_4 a0_5))
theorem impl_Shape_text.mono_l : ∀ k, (∀ y0 y1 y2 y3 y4 y5 y6 y7 y8 y9, LeO (impl_Shape_text.l0 k y0 y1 y2 y3 y4 y5 y6 y7 y8 y9) (impl_Shape_text.l0 (k + 1) y0 y1 y2 y3 y4 y5 y6 y7 y8 y9))
 | 0 => fun _ _ _ _ _ _ _ _ _ _ r h => by simp [impl_Shape_text.l0] at h
 | k + 1 => by
  have ih0 := impl_Shape_text.mono_l k
  ·intro y0 y1 y2 y3 y4 y5 y6 y7 y8 y9
   unfold impl_Shape_text.l0
   repeat' first
   | (with_reducible exact ih0 _ _ _ _ _ _ _ _ _ _)
   | (with_reducible exact LeO.refl _)
   | (with_reducible exact LeO.none _)
   | (with_reducible refine LeO.ite ?_ ?_)
   | (with_reducible refine LeO.bind ?_ (fun _ => ?_))
   | exact ih0 _ _ _ _ _ _ _ _ _ _
   | exact LeO.none _
   | refine LeO.ite ?_ ?_
   | refine LeO.bind ?_ (fun _ => ?_)
theorem impl_Shape_text.mono : ∀ a0 a1 a2 a3 a4 a5 k, LeO (impl_Shape_text.f k a0 a1 a2 a3 a4 a5) (impl_Shape_text.f (k + 1) a0 a1 a2 a3 a4 a5) := by
 intro a0 a1 a2 a3 a4 a5 k
 have ih0 := impl_Shape_text.mono_l k
 unfold impl_Shape_text.f
 repeat' first
   | (with_reducible exact ih0 _ _ _ _ _ _ _ _ _ _)
   | (with_reducible exact LeO.refl _)
   | (with_reducible exact LeO.none _)
   | (with_reducible refine LeO.ite ?_ ?_)
   | (with_reducible refine LeO.bind ?_ (fun _ => ?_))
   | exact ih0 _ _ _ _ _ _ _ _ _ _
   | exact LeO.none _
   | refine LeO.ite ?_ ?_
   | refine LeO.bind ?_ (fun _ => ?_)
set_option maxHeartbeats 8000000 in
set_option maxRecDepth 100000 in
theorem impl_Shape_text.calls (k : Nat) (a0_0 a0_1 : Int) (a0_2 a0_3 a0_4 : Int) (a0_5 : Bool) (r : ByteArray) (w : World) (h : impl_Shape_text.f k a0_0 a0_1 a0_2 a0_3 a0_4 a0_5 = some r) :
  Calls Tryz.prog 110 #[.agg #[.int .i64 a0_0, .int .i64 a0_1, .int .i64 a0_2, .int .i64 a0_3, .int .i64 a0_4, .bool a0_5]] w fun e w' => e = .returned (.string r) ∧ Below w.heap.size w w' := by
 have hu37 := Tryz.underlying37
 have HB := am_ (Below.refl w.heap.size w)
 have H : ((strconv_Itoa.f a0_0).bind fun t273 => ((impl_Shape_bends.f a0_0 a0_1 a0_2 a0_3 a0_4 a0_5).bind fun t274 => (impl_Shape_text.l0 k t273 t274 (t274.length : Int) 0 a0_0 a0_1 a0_2 a0_3 a0_4 a0_5))) = some r := h
 clear h
 replace H := Option.bind_eq_some_iff.mp H
 obtain ⟨t273, A20, H⟩ := H
 try dsimp only at H
 have A2 := Aside0.mk A20
 clear A20
 replace H := Option.bind_eq_some_iff.mp H
 obtain ⟨t274, A30, H⟩ := H
 try dsimp only at H
 have A3 := Aside0.mk A30
 clear A30
 have H' := Aside0.mk H
 clear H
 go_enter Tryz.func110, Tryz.ntmps110
 go_wp2_with (first | ((with_reducible refine gate_dst (N := 1) rfl ?_); refine bx_ (cs := #[.int .i64 a0_0, .int .i64 a0_1, .int .i64 a0_2, .int .i64 a0_3, .int .i64 a0_4, .bool a0_5]) (t := 37) ?_; intro gb272 hg w4 hbox hb; have BK272 := am_ (hbox); have GW272 := gz_ hg HB; have GE272 := gz_ hg HB; replace HB := am_ (bt_ HB hb); clear hb hbox hg; have hcz5_0 := cz0_ BK272; have hcz5_1 := cz1_ BK272; have hcz5_2 := cz2_ BK272; have hcz5_3 := cz3_ BK272; have hcz5_4 := cz4_ BK272; have hcz5_5 := cz5_ BK272) | ((with_reducible refine gate_callee (f := 137) rfl ?_); refine goesL_ (some 8) rfl rfl Tryz.func137 (by kernel_rfl) rfl #[.int .i64 a0_0] rfl args_ ?_; (with_reducible refine (strconv_Itoa.calls a0_0 t273 _ A2.out).mono ?_); rintro e w' ⟨rfl, ⟨nd, rfl⟩⟩; refine ⟨_, rfl, ?_⟩) | ((with_reducible refine gate_callee (f := 100) rfl ?_); refine goesL_ (some 10) rfl rfl Tryz.func100 (by kernel_rfl) rfl #[.agg #[.int .i64 a0_0, .int .i64 a0_1, .int .i64 a0_2, .int .i64 a0_3, .int .i64 a0_4, .bool a0_5]] rfl args_ ?_; (with_reducible refine (impl_Shape_bends.calls (w := _) (h := A3.out)).mono ?_); rintro e w6 ⟨v275, rfl, ho0, hb⟩; refine ⟨_, rfl, ?_⟩; have HO276 := am_ (Kd.R_lower ho0 (below_size (bb1_ HB GE272))); replace BK272 := am_ (lb_ BK272 hb); replace HB := am_ (below_step (bb1_ HB GE272) hb); (try clear hb); (try clear hb2); (try clear hk); (try clear hi); (try clear ho0); obtain ⟨Ao7, co7, eo7⟩ := Kd.R_slice HO276.out; subst eo7))
 go_loopg [3, 12] k (fun kq v3 v12 w' => ∃ (x3_1 : ByteArray) (x12_1 : Int), v3 = .string x3_1 ∧ v12 = .int .i64 x12_1 ∧ Aside0 (impl_Shape_text.l0 kq x3_1 t274 (t274.length : Int) x12_1 a0_0 a0_1 a0_2 a0_3 a0_4 a0_5 = some r) ∧ Aside0 (kq ≤ k) ∧ Aside0 (Kd.R (Kd.int .i64) 3 w' w.heap.size (fun _ => True) (.slice Ao7 t274.length co7) t274) ∧ Aside0 (w'.heap[gb272]? = some (.cells #[.int .i64 a0_0, .int .i64 a0_1, .int .i64 a0_2, .int .i64 a0_3, .int .i64 a0_4, .bool a0_5] 37 (0, 0))) ∧ Aside0 (Below w.heap.size w w'))
 case atStart => exact ⟨(t273), (0), (by first | rfl | (simp; done) | (simp [*]; done)), (by first | rfl | (simp; done) | (simp [*]; done)), H', ⟨Nat.le_refl _⟩, ⟨by (with_reducible repeat (first | apply rA_ | apply rN_ | apply rD_)); exact HO276.out⟩, ⟨by (with_reducible repeat (first | apply lN_ | apply lD_ | apply lA_)); exact BK272.out⟩, ⟨bb1_ HB GE272⟩⟩
 case round =>
  clear H'
  try clear c1
  try clear p2
  try clear hcz5_0
  try clear hcz5_1
  try clear hcz5_2
  try clear hcz5_3
  try clear hcz5_4
  try clear hcz5_5
  obtain ⟨x3_1, x12_1, rfl, rfl, HA, HK1, HO_10, BK272, HB⟩ := hrel
  cases gk with
  | zero => exact absurd HA.out (by simp [impl_Shape_text.l0])
  | succ k1 =>
   have H := HA.out
   clear HA
   simp only [impl_Shape_text.l0] at H
   by_cases c8 : x12_1 < (t274.length : Int)
   ·rw [if_pos c8] at H
    have c8b0 : decide (x12_1 < (t274.length : Int)) = true := decide_eq_true c8
    clear c8
    by_cases c9 : 0 ≤ x12_1
    ·rw [if_pos c9] at H
     have c9b0 : decide (0 ≤ x12_1) = true := decide_eq_true c9
     clear c9
     by_cases c10 : x12_1 < (t274.length : Int)
     ·rw [if_pos c10] at H
      have c10b0 : decide (x12_1 < (t274.length : Int)) = true := decide_eq_true c10
      clear c10
      replace H := Option.bind_eq_some_iff.mp H
      obtain ⟨t278, A110, H⟩ := H
      try dsimp only at H
      have A11 := Aside0.mk A110
      clear A110
      by_cases c12 : x3_1.size + t278.size ≤ 9223372036854775807
      ·rw [if_pos c12] at H
       have c12b0 := eq_true c12
       have c12b1 : decide (x3_1.size + t278.size ≤ 9223372036854775807) = true := decide_eq_true c12
       try have c12b2 : (9223372036854775807 < x3_1.size + t278.size) = False := eq_false (Nat.not_lt.2 c12)
       have H' := Aside0.mk H
       clear H
       have p277 : 0 ≤ (x12_1 : Int) := of_decide_eq_true as_
       have q277 : x12_1 < (t274.length : Int) := of_decide_eq_true as_
       obtain ⟨ad277, e277, hx277_0⟩ := Kd.at_int (Kd.R_reads' HO_10.out).2.2 x12_1 p277 q277
       cases e277
       replace p277 := eq_true p277
       replace q277 := eq_true q277
       go_wp2_with (first | ((with_reducible refine gate_callee (f := 137) rfl ?_); refine goesL_ (some 18) rfl rfl Tryz.func137 (by kernel_rfl) rfl #[.int .i64 (rd t274 x12_1)] rfl args_ ?_; (with_reducible refine (strconv_Itoa.calls (rd t274 x12_1) t278 _ A11.out).mono ?_); rintro e w' ⟨rfl, ⟨nd, rfl⟩⟩; refine ⟨_, rfl, ?_⟩))
       go_roundg k1
       case measure => have := HK1.out; omega
       case rel => exact ⟨(x3_1 ++ t278), (wrap64 (x12_1 + 1)), (by first | rfl | (simp; done) | (simp [*]; done)), (by first | rfl | (simp; done) | (simp [*]; done)), H', ⟨by have := HK1.out; omega⟩, ⟨by (with_reducible repeat (first | apply rA_ | apply rN_ | apply rD_)); exact HO_10.out⟩, ⟨by (with_reducible repeat (first | apply lN_ | apply lD_ | apply lA_)); exact BK272.out⟩, ⟨bb1_ HB GE272⟩⟩
      ·rw [if_neg c12] at H
       exact absurd H (by simp)
     ·rw [if_neg c10] at H
      exact absurd H (by simp)
    ·rw [if_neg c9] at H
     exact absurd H (by simp)
   ·rw [if_neg c8] at H
    have c8b0 : decide (x12_1 < (t274.length : Int)) = false := decide_eq_false c8
    clear c8
    by_cases c13 : a0_5 = true
    ·subst c13
     have H1 : (if x3_1.size + 1 ≤ 9223372036854775807 then (some (x3_1 ++ (⟨#[115]⟩ : ByteArray))) else (none)) = some r := by rw [if_pos rfl] at H; exact H
     clear H
     have H := H1
     clear H1
     by_cases c14 : x3_1.size + 1 ≤ 9223372036854775807
     ·rw [if_pos c14] at H
      have c14b0 := eq_true c14
      have c14b1 : decide (x3_1.size + 1 ≤ 9223372036854775807) = true := decide_eq_true c14
      try have c14b2 : (9223372036854775807 < x3_1.size + 1) = False := eq_false (Nat.not_lt.2 c14)
      obtain rfl := Option.some.inj H
      have hcz15_0 := cz0_ BK272
      have hcz15_1 := cz1_ BK272
      have hcz15_2 := cz2_ BK272
      have hcz15_3 := cz3_ BK272
      have hcz15_4 := cz4_ BK272
      have hcz15_5 := cz5_ BK272
      go_wp2
      go_ret
      exact ⟨ew_, bb1_ HB GE272⟩
     ·rw [if_neg c14] at H
      exact absurd H (by simp)
    ·replace c13 := Bool.eq_false_iff.mpr c13
     subst c13
     have H1 : (some x3_1) = some r := by rw [if_neg (show ¬ (false = true) by decide)] at H; exact H
     clear H
     have H := H1
     clear H1
     obtain rfl := Option.some.inj H
     have hcz16_0 := cz0_ BK272
     have hcz16_1 := cz1_ BK272
     have hcz16_2 := cz2_ BK272
     have hcz16_3 := cz3_ BK272
     have hcz16_4 := cz4_ BK272
     have hcz16_5 := cz5_ BK272
     go_wp2
     go_ret
     exact ⟨ew_, bb1_ HB GE272⟩

/-! ### impl_Shape_with: function 142 -/
def impl_Shape_with.f (a0_0 a0_1 : Int) (a0_2 a0_3 a0_4 : Int) (a0_5 : Bool) (a1 a2 : Int) : Option (Int × Int × Int × Int × Int × Bool) := if a1 = 0 then (if a0_5 = true then ((impl_Shape_maySpread.f a2 a0_1 a0_2 a0_3 a0_4 a0_5).bind fun t281 => (some (a2, a0_1, a0_2, a0_3, a0_4, t281))) else (some (a2, a0_1, a0_2, a0_3, a0_4, false))) else (if a1 = 1 then (if a0_5 = true then ((impl_Shape_maySpread.f a0_0 a2 a0_2 a0_3 a0_4 a0_5).bind fun t282 => (some (a0_0, a2, a0_2, a0_3, a0_4, t282))) else (some (a0_0, a2, a0_2, a0_3, a0_4, false))) else (if a1 = 2 then (if a0_5 = true then ((impl_Shape_maySpread.f a0_0 a0_1 a2 a0_3 a0_4 a0_5).bind fun t283 => (some (a0_0, a0_1, a2, a0_3, a0_4, t283))) else (some (a0_0, a0_1, a2, a0_3, a0_4, false))) else (if a1 = 3 then (if a0_5 = true then ((impl_Shape_maySpread.f a0_0 a0_1 a0_2 a2 a0_4 a0_5).bind fun t284 => (some (a0_0, a0_1, a0_2, a2, a0_4, t284))) else (some (a0_0, a0_1, a0_2, a2, a0_4, false))) else (if a0_5 = true then ((impl_Shape_maySpread.f a0_0 a0_1 a0_2 a0_3 a2 a0_5).bind fun t285 => (some (a0_0, a0_1, a0_2, a0_3, a2, t285))) else (some (a0_0, a0_1, a0_2, a0_3, a2, false))))))
set_option maxHeartbeats 8000000 in
set_option maxRecDepth 100000 in
theorem impl_Shape_with.calls (a0_0 a0_1 : Int) (a0_2 a0_3 a0_4 : Int) (a0_5 : Bool) (a1 a2 : Int) (r1 r2 : Int) (r3 r4 r5 : Int) (r6 : Bool) (w : World) (h : impl_Shape_with.f a0_0 a0_1 a0_2 a0_3 a0_4 a0_5 a1 a2 = some (r1, r2, r3, r4, r5, r6)) :
  Calls Tryz.prog 142 #[.agg #[.int .i64 a0_0, .int .i64 a0_1, .int .i64 a0_2, .int .i64 a0_3, .int .i64 a0_4, .bool a0_5], .int .i64 a1, .int .i64 a2] w fun e w' => e = .returned (.agg #[.int .i64 r1, .int .i64 r2, .int .i64 r3, .int .i64 r4, .int .i64 r5, .bool r6]) ∧ Below w.heap.size w w' := by
 have hu37 := Tryz.underlying37
 have HB := am_ (Below.refl w.heap.size w)
 have H : (if a1 = 0 then (if a0_5 = true then ((impl_Shape_maySpread.f a2 a0_1 a0_2 a0_3 a0_4 a0_5).bind fun t281 => (some (a2, a0_1, a0_2, a0_3, a0_4, t281))) else (some (a2, a0_1, a0_2, a0_3, a0_4, false))) else (if a1 = 1 then (if a0_5 = true then ((impl_Shape_maySpread.f a0_0 a2 a0_2 a0_3 a0_4 a0_5).bind fun t282 => (some (a0_0, a2, a0_2, a0_3, a0_4, t282))) else (some (a0_0, a2, a0_2, a0_3, a0_4, false))) else (if a1 = 2 then (if a0_5 = true then ((impl_Shape_maySpread.f a0_0 a0_1 a2 a0_3 a0_4 a0_5).bind fun t283 => (some (a0_0, a0_1, a2, a0_3, a0_4, t283))) else (some (a0_0, a0_1, a2, a0_3, a0_4, false))) else (if a1 = 3 then (if a0_5 = true then ((impl_Shape_maySpread.f a0_0 a0_1 a0_2 a2 a0_4 a0_5).bind fun t284 => (some (a0_0, a0_1, a0_2, a2, a0_4, t284))) else (some (a0_0, a0_1, a0_2, a2, a0_4, false))) else (if a0_5 = true then ((impl_Shape_maySpread.f a0_0 a0_1 a0_2 a0_3 a2 a0_5).bind fun t285 => (some (a0_0, a0_1, a0_2, a0_3, a2, t285))) else (some (a0_0, a0_1, a0_2, a0_3, a2, false))))))) = some (r1, r2, r3, r4, r5, r6) := h
 clear h
 by_cases c4 : a1 = 0
 ·rw [if_pos c4] at H
  have c4b0 : (a1 == 0) = true := beq_iff_eq.mpr c4
  have c4b1 : (a1 != 0) = false := bne_eq_false_iff_eq.mpr c4
  clear c4
  by_cases c5 : a0_5 = true
  ·subst c5
   have H1 : ((impl_Shape_maySpread.f a2 a0_1 a0_2 a0_3 a0_4 true).bind fun t281 => (some (a2, a0_1, a0_2, a0_3, a0_4, t281))) = some (r1, r2, r3, r4, r5, r6) := by rw [if_pos rfl] at H; exact H
   clear H
   have H := H1
   clear H1
   replace H := Option.bind_eq_some_iff.mp H
   obtain ⟨t281, A60, H⟩ := H
   try dsimp only at H
   have A6 := Aside0.mk A60
   clear A60
   simp only [Option.some.injEq, Prod.mk.injEq] at H
   obtain ⟨rfl, rfl, rfl, rfl, rfl, rfl⟩ := H
   go_enter Tryz.func142, Tryz.ntmps142
   go_wp2_with (first | ((with_reducible refine gate_dst (N := 3) rfl ?_); refine bx_ (cs := #[.int .i64 a0_0, .int .i64 a0_1, .int .i64 a0_2, .int .i64 a0_3, .int .i64 a0_4, .bool true]) (t := 37) ?_; intro gb279 hg w7 hbox hb; have BK279 := am_ (hbox); have GW279 := gz_ hg HB; have GE279 := gz_ hg HB; replace HB := am_ (bt_ HB hb); clear hb hbox hg) | ((with_reducible refine gate_dst (N := 6) rfl ?_); refine bx_ (cs := #[.int .i64 0, .int .i64 0, .int .i64 0, .int .i64 0, .int .i64 0, .bool false]) (t := 37) ?_; intro gb280 hg w8 hbox hb; have BK280 := am_ (hbox); have GW280 := gy_ hg (bb1_ HB GE279); have GE280 := gy_ hg (bb1_ HB GE279); replace HB := am_ (below_step (bb1_ HB GE279) hb); have NB279_280 := nl_ hg BK279; have NB280_279 := ng_ hg BK279; replace BK279 := am_ (lb_ BK279 hb); clear hb hbox hg; have hnb9 := NB279_280.out; have hnc9 := NB280_279.out; have hcz10_0 := cz0_ BK279; have hcz10_1 := cz1_ BK279; have hcz10_2 := cz2_ BK279; have hcz10_3 := cz3_ BK279; have hcz10_4 := cz4_ BK279; have hcz10_5 := cz5_ BK279; have hfz10_0 := fz_ BK279 0; have hfz10_1 := fz_ BK279 1; have hfz10_2 := fz_ BK279 2; have hfz10_3 := fz_ BK279 3; have hfz10_4 := fz_ BK279 4; have hfz10_5 := fz_ BK279 5) | (go_at_call 122; (with_reducible refine (impl_Shape_maySpread.calls (w := _) (h := A6.out)).mono ?_); rintro e w11 ⟨rfl, hb⟩; have n0_ := am_ (blk_below (g := gb279) (o := .cells #[.int .i64 a2, .int .i64 a0_1, .int .i64 a0_2, .int .i64 a0_3, .int .i64 a0_4, .bool true] 37 (0, 0)) (by (with_reducible repeat (first | apply lN_ | apply lD_ | apply lA_)); refine blk_put (cs := #[.int .i64 a0_0, .int .i64 a0_1, .int .i64 a0_2, .int .i64 a0_3, .int .i64 a0_4, .bool true]) ?_ 0 _ rfl; (with_reducible repeat (first | apply lN_ | apply lD_ | apply lA_)); exact BK279.out) hb); have n1_ := am_ (blk_below (g := gb280) (o := .cells #[.int .i64 0, .int .i64 0, .int .i64 0, .int .i64 0, .int .i64 0, .bool false] 37 (0, 0)) (by (with_reducible repeat (first | apply lN_ | apply lD_ | apply lA_)); refine blk_far ?_ NB280_279.out _; (with_reducible repeat (first | apply lN_ | apply lD_ | apply lA_)); exact BK280.out) hb); have n2_ := am_ (below_step (bb2_ HB GE279 GE280) hb); clear BK279; clear BK280; clear HB; have BK279 := n0_; have BK280 := n1_; have HB := n2_; clear n0_ n1_ n2_; (try clear hb); (try clear hb2); (try clear hk); (try clear hi); have hcz12_0 := cz0_ BK279; have hcz12_1 := cz1_ BK279; have hcz12_2 := cz2_ BK279; have hcz12_3 := cz3_ BK279; have hcz12_4 := cz4_ BK279; have hcz12_5 := cz5_ BK279; have hfz12_0 := fz_ BK279 0; have hfz12_1 := fz_ BK279 1; have hfz12_2 := fz_ BK279 2; have hfz12_3 := fz_ BK279 3; have hfz12_4 := fz_ BK279 4; have hfz12_5 := fz_ BK279 5; have hcz13_0 := cz0_ BK280; have hcz13_1 := cz1_ BK280; have hcz13_2 := cz2_ BK280; have hcz13_3 := cz3_ BK280; have hcz13_4 := cz4_ BK280; have hcz13_5 := cz5_ BK280; have hfz13_0 := fz_ BK280 0; have hfz13_1 := fz_ BK280 1; have hfz13_2 := fz_ BK280 2; have hfz13_3 := fz_ BK280 3; have hfz13_4 := fz_ BK280 4; have hfz13_5 := fz_ BK280 5))
   refine bodyPost_ret (results_cell_row rfl _ _ gb280 37 #[.int .i64 a2, .int .i64 a0_1, .int .i64 a0_2, .int .i64 a0_3, .int .i64 a0_4, .bool t281] (0, 0) _ rfl (by (with_reducible repeat (first | apply lN_ | apply lD_ | apply lA_)); refine blk_put (cs := #[.int .i64 a2, .int .i64 a0_1, .int .i64 a0_2, .int .i64 a0_3, .int .i64 a0_4, .bool false]) ?_ 5 _ rfl; (with_reducible repeat (first | apply lN_ | apply lD_ | apply lA_)); refine blk_put (cs := #[.int .i64 a2, .int .i64 a0_1, .int .i64 a0_2, .int .i64 a0_3, .int .i64 0, .bool false]) ?_ 4 _ rfl; (with_reducible repeat (first | apply lN_ | apply lD_ | apply lA_)); refine blk_put (cs := #[.int .i64 a2, .int .i64 a0_1, .int .i64 a0_2, .int .i64 0, .int .i64 0, .bool false]) ?_ 3 _ rfl; (with_reducible repeat (first | apply lN_ | apply lD_ | apply lA_)); refine blk_put (cs := #[.int .i64 a2, .int .i64 a0_1, .int .i64 0, .int .i64 0, .int .i64 0, .bool false]) ?_ 2 _ rfl; (with_reducible repeat (first | apply lN_ | apply lD_ | apply lA_)); refine blk_put (cs := #[.int .i64 a2, .int .i64 0, .int .i64 0, .int .i64 0, .int .i64 0, .bool false]) ?_ 1 _ rfl; (with_reducible repeat (first | apply lN_ | apply lD_ | apply lA_)); refine blk_put (cs := #[.int .i64 0, .int .i64 0, .int .i64 0, .int .i64 0, .int .i64 0, .bool false]) ?_ 0 _ rfl; (with_reducible repeat (first | apply lN_ | apply lD_ | apply lA_)); refine blk_far ?_ NB280_279.out _; (with_reducible repeat (first | apply lN_ | apply lD_ | apply lA_)); exact BK280.out) Tryz.underlying37 rfl (by kernel_rfl)) rfl ?_
   exact ⟨ew_, bb2_ HB GE279 GE280⟩
  ·replace c5 := Bool.eq_false_iff.mpr c5
   subst c5
   have H1 : (some (a2, a0_1, a0_2, a0_3, a0_4, false)) = some (r1, r2, r3, r4, r5, r6) := by rw [if_neg (show ¬ (false = true) by decide)] at H; exact H
   clear H
   have H := H1
   clear H1
   simp only [Option.some.injEq, Prod.mk.injEq] at H
   obtain ⟨rfl, rfl, rfl, rfl, rfl, rfl⟩ := H
   go_enter Tryz.func142, Tryz.ntmps142
   go_wp2_with (first | ((with_reducible refine gate_dst (N := 3) rfl ?_); refine bx_ (cs := #[.int .i64 a0_0, .int .i64 a0_1, .int .i64 a0_2, .int .i64 a0_3, .int .i64 a0_4, .bool false]) (t := 37) ?_; intro gb279 hg w14 hbox hb; have BK279 := am_ (hbox); have GW279 := gz_ hg HB; have GE279 := gz_ hg HB; replace HB := am_ (bt_ HB hb); clear hb hbox hg) | ((with_reducible refine gate_dst (N := 6) rfl ?_); refine bx_ (cs := #[.int .i64 0, .int .i64 0, .int .i64 0, .int .i64 0, .int .i64 0, .bool false]) (t := 37) ?_; intro gb280 hg w15 hbox hb; have BK280 := am_ (hbox); have GW280 := gy_ hg (bb1_ HB GE279); have GE280 := gy_ hg (bb1_ HB GE279); replace HB := am_ (below_step (bb1_ HB GE279) hb); have NB279_280 := nl_ hg BK279; have NB280_279 := ng_ hg BK279; replace BK279 := am_ (lb_ BK279 hb); clear hb hbox hg; have hnb16 := NB279_280.out; have hnc16 := NB280_279.out; have hcz17_0 := cz0_ BK279; have hcz17_1 := cz1_ BK279; have hcz17_2 := cz2_ BK279; have hcz17_3 := cz3_ BK279; have hcz17_4 := cz4_ BK279; have hcz17_5 := cz5_ BK279; have hfz17_0 := fz_ BK279 0; have hfz17_1 := fz_ BK279 1; have hfz17_2 := fz_ BK279 2; have hfz17_3 := fz_ BK279 3; have hfz17_4 := fz_ BK279 4; have hfz17_5 := fz_ BK279 5; have hcz18_0 := cz0_ BK280; have hcz18_1 := cz1_ BK280; have hcz18_2 := cz2_ BK280; have hcz18_3 := cz3_ BK280; have hcz18_4 := cz4_ BK280; have hcz18_5 := cz5_ BK280; have hfz18_0 := fz_ BK280 0; have hfz18_1 := fz_ BK280 1; have hfz18_2 := fz_ BK280 2; have hfz18_3 := fz_ BK280 3; have hfz18_4 := fz_ BK280 4; have hfz18_5 := fz_ BK280 5))
   refine bodyPost_ret (results_cell_row rfl _ _ gb280 37 #[.int .i64 a2, .int .i64 a0_1, .int .i64 a0_2, .int .i64 a0_3, .int .i64 a0_4, .bool false] (0, 0) _ rfl (by (with_reducible repeat (first | apply lN_ | apply lD_ | apply lA_)); refine blk_put (cs := #[.int .i64 a2, .int .i64 a0_1, .int .i64 a0_2, .int .i64 a0_3, .int .i64 a0_4, .bool false]) ?_ 5 _ rfl; (with_reducible repeat (first | apply lN_ | apply lD_ | apply lA_)); refine blk_put (cs := #[.int .i64 a2, .int .i64 a0_1, .int .i64 a0_2, .int .i64 a0_3, .int .i64 0, .bool false]) ?_ 4 _ rfl; (with_reducible repeat (first | apply lN_ | apply lD_ | apply lA_)); refine blk_put (cs := #[.int .i64 a2, .int .i64 a0_1, .int .i64 a0_2, .int .i64 0, .int .i64 0, .bool false]) ?_ 3 _ rfl; (with_reducible repeat (first | apply lN_ | apply lD_ | apply lA_)); refine blk_put (cs := #[.int .i64 a2, .int .i64 a0_1, .int .i64 0, .int .i64 0, .int .i64 0, .bool false]) ?_ 2 _ rfl; (with_reducible repeat (first | apply lN_ | apply lD_ | apply lA_)); refine blk_put (cs := #[.int .i64 a2, .int .i64 0, .int .i64 0, .int .i64 0, .int .i64 0, .bool false]) ?_ 1 _ rfl; (with_reducible repeat (first | apply lN_ | apply lD_ | apply lA_)); refine blk_put (cs := #[.int .i64 0, .int .i64 0, .int .i64 0, .int .i64 0, .int .i64 0, .bool false]) ?_ 0 _ rfl; (with_reducible repeat (first | apply lN_ | apply lD_ | apply lA_)); refine blk_far ?_ NB280_279.out _; (with_reducible repeat (first | apply lN_ | apply lD_ | apply lA_)); refine blk_far ?_ NB280_279.out _; (with_reducible repeat (first | apply lN_ | apply lD_ | apply lA_)); exact BK280.out) Tryz.underlying37 rfl (by kernel_rfl)) rfl ?_
   exact ⟨ew_, bb2_ HB GE279 GE280⟩
 ·rw [if_neg c4] at H
  have c4b0 : (a1 == 0) = false := beq_eq_false_iff_ne.mpr c4
  have c4b1 : (a1 != 0) = true := bne_iff_ne.mpr c4
  by_cases c19 : a1 = 1
  ·rw [if_pos c19] at H
   have c19b0 : (a1 == 1) = true := beq_iff_eq.mpr c19
   have c19b1 : (a1 != 1) = false := bne_eq_false_iff_eq.mpr c19
   clear c19
   by_cases c20 : a0_5 = true
   ·subst c20
    have H1 : ((impl_Shape_maySpread.f a0_0 a2 a0_2 a0_3 a0_4 true).bind fun t282 => (some (a0_0, a2, a0_2, a0_3, a0_4, t282))) = some (r1, r2, r3, r4, r5, r6) := by rw [if_pos rfl] at H; exact H
    clear H
    have H := H1
    clear H1
    replace H := Option.bind_eq_some_iff.mp H
    obtain ⟨t282, A210, H⟩ := H
    try dsimp only at H
    have A21 := Aside0.mk A210
    clear A210
    simp only [Option.some.injEq, Prod.mk.injEq] at H
    obtain ⟨rfl, rfl, rfl, rfl, rfl, rfl⟩ := H
    go_enter Tryz.func142, Tryz.ntmps142
    go_wp2_with (first | ((with_reducible refine gate_dst (N := 3) rfl ?_); refine bx_ (cs := #[.int .i64 a0_0, .int .i64 a0_1, .int .i64 a0_2, .int .i64 a0_3, .int .i64 a0_4, .bool true]) (t := 37) ?_; intro gb279 hg w22 hbox hb; have BK279 := am_ (hbox); have GW279 := gz_ hg HB; have GE279 := gz_ hg HB; replace HB := am_ (bt_ HB hb); clear hb hbox hg) | ((with_reducible refine gate_dst (N := 6) rfl ?_); refine bx_ (cs := #[.int .i64 0, .int .i64 0, .int .i64 0, .int .i64 0, .int .i64 0, .bool false]) (t := 37) ?_; intro gb280 hg w23 hbox hb; have BK280 := am_ (hbox); have GW280 := gy_ hg (bb1_ HB GE279); have GE280 := gy_ hg (bb1_ HB GE279); replace HB := am_ (below_step (bb1_ HB GE279) hb); have NB279_280 := nl_ hg BK279; have NB280_279 := ng_ hg BK279; replace BK279 := am_ (lb_ BK279 hb); clear hb hbox hg; have hnb24 := NB279_280.out; have hnc24 := NB280_279.out; have hcz25_0 := cz0_ BK279; have hcz25_1 := cz1_ BK279; have hcz25_2 := cz2_ BK279; have hcz25_3 := cz3_ BK279; have hcz25_4 := cz4_ BK279; have hcz25_5 := cz5_ BK279; have hfz25_0 := fz_ BK279 0; have hfz25_1 := fz_ BK279 1; have hfz25_2 := fz_ BK279 2; have hfz25_3 := fz_ BK279 3; have hfz25_4 := fz_ BK279 4; have hfz25_5 := fz_ BK279 5) | (go_at_call 122; (with_reducible refine (impl_Shape_maySpread.calls (w := _) (h := A21.out)).mono ?_); rintro e w26 ⟨rfl, hb⟩; have n0_ := am_ (blk_below (g := gb279) (o := .cells #[.int .i64 a0_0, .int .i64 a2, .int .i64 a0_2, .int .i64 a0_3, .int .i64 a0_4, .bool true] 37 (0, 0)) (by (with_reducible repeat (first | apply lN_ | apply lD_ | apply lA_)); refine blk_put (cs := #[.int .i64 a0_0, .int .i64 a0_1, .int .i64 a0_2, .int .i64 a0_3, .int .i64 a0_4, .bool true]) ?_ 1 _ rfl; (with_reducible repeat (first | apply lN_ | apply lD_ | apply lA_)); exact BK279.out) hb); have n1_ := am_ (blk_below (g := gb280) (o := .cells #[.int .i64 0, .int .i64 0, .int .i64 0, .int .i64 0, .int .i64 0, .bool false] 37 (0, 0)) (by (with_reducible repeat (first | apply lN_ | apply lD_ | apply lA_)); refine blk_far ?_ NB280_279.out _; (with_reducible repeat (first | apply lN_ | apply lD_ | apply lA_)); exact BK280.out) hb); have n2_ := am_ (below_step (bb2_ HB GE279 GE280) hb); clear BK279; clear BK280; clear HB; have BK279 := n0_; have BK280 := n1_; have HB := n2_; clear n0_ n1_ n2_; (try clear hb); (try clear hb2); (try clear hk); (try clear hi); have hcz27_0 := cz0_ BK279; have hcz27_1 := cz1_ BK279; have hcz27_2 := cz2_ BK279; have hcz27_3 := cz3_ BK279; have hcz27_4 := cz4_ BK279; have hcz27_5 := cz5_ BK279; have hfz27_0 := fz_ BK279 0; have hfz27_1 := fz_ BK279 1; have hfz27_2 := fz_ BK279 2; have hfz27_3 := fz_ BK279 3; have hfz27_4 := fz_ BK279 4; have hfz27_5 := fz_ BK279 5; have hcz28_0 := cz0_ BK280; have hcz28_1 := cz1_ BK280; have hcz28_2 := cz2_ BK280; have hcz28_3 := cz3_ BK280; have hcz28_4 := cz4_ BK280; have hcz28_5 := cz5_ BK280; have hfz28_0 := fz_ BK280 0; have hfz28_1 := fz_ BK280 1; have hfz28_2 := fz_ BK280 2; have hfz28_3 := fz_ BK280 3; have hfz28_4 := fz_ BK280 4; have hfz28_5 := fz_ BK280 5))
    refine bodyPost_ret (results_cell_row rfl _ _ gb280 37 #[.int .i64 a0_0, .int .i64 a2, .int .i64 a0_2, .int .i64 a0_3, .int .i64 a0_4, .bool t282] (0, 0) _ rfl (by (with_reducible repeat (first | apply lN_ | apply lD_ | apply lA_)); refine blk_put (cs := #[.int .i64 a0_0, .int .i64 a2, .int .i64 a0_2, .int .i64 a0_3, .int .i64 a0_4, .bool false]) ?_ 5 _ rfl; (with_reducible repeat (first | apply lN_ | apply lD_ | apply lA_)); refine blk_put (cs := #[.int .i64 a0_0, .int .i64 a2, .int .i64 a0_2, .int .i64 a0_3, .int .i64 0, .bool false]) ?_ 4 _ rfl; (with_reducible repeat (first | apply lN_ | apply lD_ | apply lA_)); refine blk_put (cs := #[.int .i64 a0_0, .int .i64 a2, .int .i64 a0_2, .int .i64 0, .int .i64 0, .bool false]) ?_ 3 _ rfl; (with_reducible repeat (first | apply lN_ | apply lD_ | apply lA_)); refine blk_put (cs := #[.int .i64 a0_0, .int .i64 a2, .int .i64 0, .int .i64 0, .int .i64 0, .bool false]) ?_ 2 _ rfl; (with_reducible repeat (first | apply lN_ | apply lD_ | apply lA_)); refine blk_put (cs := #[.int .i64 a0_0, .int .i64 0, .int .i64 0, .int .i64 0, .int .i64 0, .bool false]) ?_ 1 _ rfl; (with_reducible repeat (first | apply lN_ | apply lD_ | apply lA_)); refine blk_put (cs := #[.int .i64 0, .int .i64 0, .int .i64 0, .int .i64 0, .int .i64 0, .bool false]) ?_ 0 _ rfl; (with_reducible repeat (first | apply lN_ | apply lD_ | apply lA_)); refine blk_far ?_ NB280_279.out _; (with_reducible repeat (first | apply lN_ | apply lD_ | apply lA_)); exact BK280.out) Tryz.underlying37 rfl (by kernel_rfl)) rfl ?_
    exact ⟨ew_, bb2_ HB GE279 GE280⟩
   ·replace c20 := Bool.eq_false_iff.mpr c20
    subst c20
    have H1 : (some (a0_0, a2, a0_2, a0_3, a0_4, false)) = some (r1, r2, r3, r4, r5, r6) := by rw [if_neg (show ¬ (false = true) by decide)] at H; exact H
    clear H
    have H := H1
    clear H1
    simp only [Option.some.injEq, Prod.mk.injEq] at H
    obtain ⟨rfl, rfl, rfl, rfl, rfl, rfl⟩ := H
    go_enter Tryz.func142, Tryz.ntmps142
    go_wp2_with (first | ((with_reducible refine gate_dst (N := 3) rfl ?_); refine bx_ (cs := #[.int .i64 a0_0, .int .i64 a0_1, .int .i64 a0_2, .int .i64 a0_3, .int .i64 a0_4, .bool false]) (t := 37) ?_; intro gb279 hg w29 hbox hb; have BK279 := am_ (hbox); have GW279 := gz_ hg HB; have GE279 := gz_ hg HB; replace HB := am_ (bt_ HB hb); clear hb hbox hg) | ((with_reducible refine gate_dst (N := 6) rfl ?_); refine bx_ (cs := #[.int .i64 0, .int .i64 0, .int .i64 0, .int .i64 0, .int .i64 0, .bool false]) (t := 37) ?_; intro gb280 hg w30 hbox hb; have BK280 := am_ (hbox); have GW280 := gy_ hg (bb1_ HB GE279); have GE280 := gy_ hg (bb1_ HB GE279); replace HB := am_ (below_step (bb1_ HB GE279) hb); have NB279_280 := nl_ hg BK279; have NB280_279 := ng_ hg BK279; replace BK279 := am_ (lb_ BK279 hb); clear hb hbox hg; have hnb31 := NB279_280.out; have hnc31 := NB280_279.out; have hcz32_0 := cz0_ BK279; have hcz32_1 := cz1_ BK279; have hcz32_2 := cz2_ BK279; have hcz32_3 := cz3_ BK279; have hcz32_4 := cz4_ BK279; have hcz32_5 := cz5_ BK279; have hfz32_0 := fz_ BK279 0; have hfz32_1 := fz_ BK279 1; have hfz32_2 := fz_ BK279 2; have hfz32_3 := fz_ BK279 3; have hfz32_4 := fz_ BK279 4; have hfz32_5 := fz_ BK279 5; have hcz33_0 := cz0_ BK280; have hcz33_1 := cz1_ BK280; have hcz33_2 := cz2_ BK280; have hcz33_3 := cz3_ BK280; have hcz33_4 := cz4_ BK280; have hcz33_5 := cz5_ BK280; have hfz33_0 := fz_ BK280 0; have hfz33_1 := fz_ BK280 1; have hfz33_2 := fz_ BK280 2; have hfz33_3 := fz_ BK280 3; have hfz33_4 := fz_ BK280 4; have hfz33_5 := fz_ BK280 5))
    refine bodyPost_ret (results_cell_row rfl _ _ gb280 37 #[.int .i64 a0_0, .int .i64 a2, .int .i64 a0_2, .int .i64 a0_3, .int .i64 a0_4, .bool false] (0, 0) _ rfl (by (with_reducible repeat (first | apply lN_ | apply lD_ | apply lA_)); refine blk_put (cs := #[.int .i64 a0_0, .int .i64 a2, .int .i64 a0_2, .int .i64 a0_3, .int .i64 a0_4, .bool false]) ?_ 5 _ rfl; (with_reducible repeat (first | apply lN_ | apply lD_ | apply lA_)); refine blk_put (cs := #[.int .i64 a0_0, .int .i64 a2, .int .i64 a0_2, .int .i64 a0_3, .int .i64 0, .bool false]) ?_ 4 _ rfl; (with_reducible repeat (first | apply lN_ | apply lD_ | apply lA_)); refine blk_put (cs := #[.int .i64 a0_0, .int .i64 a2, .int .i64 a0_2, .int .i64 0, .int .i64 0, .bool false]) ?_ 3 _ rfl; (with_reducible repeat (first | apply lN_ | apply lD_ | apply lA_)); refine blk_put (cs := #[.int .i64 a0_0, .int .i64 a2, .int .i64 0, .int .i64 0, .int .i64 0, .bool false]) ?_ 2 _ rfl; (with_reducible repeat (first | apply lN_ | apply lD_ | apply lA_)); refine blk_put (cs := #[.int .i64 a0_0, .int .i64 0, .int .i64 0, .int .i64 0, .int .i64 0, .bool false]) ?_ 1 _ rfl; (with_reducible repeat (first | apply lN_ | apply lD_ | apply lA_)); refine blk_put (cs := #[.int .i64 0, .int .i64 0, .int .i64 0, .int .i64 0, .int .i64 0, .bool false]) ?_ 0 _ rfl; (with_reducible repeat (first | apply lN_ | apply lD_ | apply lA_)); refine blk_far ?_ NB280_279.out _; (with_reducible repeat (first | apply lN_ | apply lD_ | apply lA_)); refine blk_far ?_ NB280_279.out _; (with_reducible repeat (first | apply lN_ | apply lD_ | apply lA_)); exact BK280.out) Tryz.underlying37 rfl (by kernel_rfl)) rfl ?_
    exact ⟨ew_, bb2_ HB GE279 GE280⟩
  ·rw [if_neg c19] at H
   have c19b0 : (a1 == 1) = false := beq_eq_false_iff_ne.mpr c19
   have c19b1 : (a1 != 1) = true := bne_iff_ne.mpr c19
   by_cases c34 : a1 = 2
   ·rw [if_pos c34] at H
    have c34b0 : (a1 == 2) = true := beq_iff_eq.mpr c34
    have c34b1 : (a1 != 2) = false := bne_eq_false_iff_eq.mpr c34
    clear c34
    by_cases c35 : a0_5 = true
    ·subst c35
     have H1 : ((impl_Shape_maySpread.f a0_0 a0_1 a2 a0_3 a0_4 true).bind fun t283 => (some (a0_0, a0_1, a2, a0_3, a0_4, t283))) = some (r1, r2, r3, r4, r5, r6) := by rw [if_pos rfl] at H; exact H
     clear H
     have H := H1
     clear H1
     replace H := Option.bind_eq_some_iff.mp H
     obtain ⟨t283, A360, H⟩ := H
     try dsimp only at H
     have A36 := Aside0.mk A360
     clear A360
     simp only [Option.some.injEq, Prod.mk.injEq] at H
     obtain ⟨rfl, rfl, rfl, rfl, rfl, rfl⟩ := H
     go_enter Tryz.func142, Tryz.ntmps142
     go_wp2_with (first | ((with_reducible refine gate_dst (N := 3) rfl ?_); refine bx_ (cs := #[.int .i64 a0_0, .int .i64 a0_1, .int .i64 a0_2, .int .i64 a0_3, .int .i64 a0_4, .bool true]) (t := 37) ?_; intro gb279 hg w37 hbox hb; have BK279 := am_ (hbox); have GW279 := gz_ hg HB; have GE279 := gz_ hg HB; replace HB := am_ (bt_ HB hb); clear hb hbox hg) | ((with_reducible refine gate_dst (N := 6) rfl ?_); refine bx_ (cs := #[.int .i64 0, .int .i64 0, .int .i64 0, .int .i64 0, .int .i64 0, .bool false]) (t := 37) ?_; intro gb280 hg w38 hbox hb; have BK280 := am_ (hbox); have GW280 := gy_ hg (bb1_ HB GE279); have GE280 := gy_ hg (bb1_ HB GE279); replace HB := am_ (below_step (bb1_ HB GE279) hb); have NB279_280 := nl_ hg BK279; have NB280_279 := ng_ hg BK279; replace BK279 := am_ (lb_ BK279 hb); clear hb hbox hg; have hnb39 := NB279_280.out; have hnc39 := NB280_279.out; have hcz40_0 := cz0_ BK279; have hcz40_1 := cz1_ BK279; have hcz40_2 := cz2_ BK279; have hcz40_3 := cz3_ BK279; have hcz40_4 := cz4_ BK279; have hcz40_5 := cz5_ BK279; have hfz40_0 := fz_ BK279 0; have hfz40_1 := fz_ BK279 1; have hfz40_2 := fz_ BK279 2; have hfz40_3 := fz_ BK279 3; have hfz40_4 := fz_ BK279 4; have hfz40_5 := fz_ BK279 5) | (go_at_call 122; (with_reducible refine (impl_Shape_maySpread.calls (w := _) (h := A36.out)).mono ?_); rintro e w41 ⟨rfl, hb⟩; have n0_ := am_ (blk_below (g := gb279) (o := .cells #[.int .i64 a0_0, .int .i64 a0_1, .int .i64 a2, .int .i64 a0_3, .int .i64 a0_4, .bool true] 37 (0, 0)) (by (with_reducible repeat (first | apply lN_ | apply lD_ | apply lA_)); refine blk_put (cs := #[.int .i64 a0_0, .int .i64 a0_1, .int .i64 a0_2, .int .i64 a0_3, .int .i64 a0_4, .bool true]) ?_ 2 _ rfl; (with_reducible repeat (first | apply lN_ | apply lD_ | apply lA_)); exact BK279.out) hb); have n1_ := am_ (blk_below (g := gb280) (o := .cells #[.int .i64 0, .int .i64 0, .int .i64 0, .int .i64 0, .int .i64 0, .bool false] 37 (0, 0)) (by (with_reducible repeat (first | apply lN_ | apply lD_ | apply lA_)); refine blk_far ?_ NB280_279.out _; (with_reducible repeat (first | apply lN_ | apply lD_ | apply lA_)); exact BK280.out) hb); have n2_ := am_ (below_step (bb2_ HB GE279 GE280) hb); clear BK279; clear BK280; clear HB; have BK279 := n0_; have BK280 := n1_; have HB := n2_; clear n0_ n1_ n2_; (try clear hb); (try clear hb2); (try clear hk); (try clear hi); have hcz42_0 := cz0_ BK279; have hcz42_1 := cz1_ BK279; have hcz42_2 := cz2_ BK279; have hcz42_3 := cz3_ BK279; have hcz42_4 := cz4_ BK279; have hcz42_5 := cz5_ BK279; have hfz42_0 := fz_ BK279 0; have hfz42_1 := fz_ BK279 1; have hfz42_2 := fz_ BK279 2; have hfz42_3 := fz_ BK279 3; have hfz42_4 := fz_ BK279 4; have hfz42_5 := fz_ BK279 5; have hcz43_0 := cz0_ BK280; have hcz43_1 := cz1_ BK280; have hcz43_2 := cz2_ BK280; have hcz43_3 := cz3_ BK280; have hcz43_4 := cz4_ BK280; have hcz43_5 := cz5_ BK280; have hfz43_0 := fz_ BK280 0; have hfz43_1 := fz_ BK280 1; have hfz43_2 := fz_ BK280 2; have hfz43_3 := fz_ BK280 3; have hfz43_4 := fz_ BK280 4; have hfz43_5 := fz_ BK280 5))
     refine bodyPost_ret (results_cell_row rfl _ _ gb280 37 #[.int .i64 a0_0, .int .i64 a0_1, .int .i64 a2, .int .i64 a0_3, .int .i64 a0_4, .bool t283] (0, 0) _ rfl (by (with_reducible repeat (first | apply lN_ | apply lD_ | apply lA_)); refine blk_put (cs := #[.int .i64 a0_0, .int .i64 a0_1, .int .i64 a2, .int .i64 a0_3, .int .i64 a0_4, .bool false]) ?_ 5 _ rfl; (with_reducible repeat (first | apply lN_ | apply lD_ | apply lA_)); refine blk_put (cs := #[.int .i64 a0_0, .int .i64 a0_1, .int .i64 a2, .int .i64 a0_3, .int .i64 0, .bool false]) ?_ 4 _ rfl; (with_reducible repeat (first | apply lN_ | apply lD_ | apply lA_)); refine blk_put (cs := #[.int .i64 a0_0, .int .i64 a0_1, .int .i64 a2, .int .i64 0, .int .i64 0, .bool false]) ?_ 3 _ rfl; (with_reducible repeat (first | apply lN_ | apply lD_ | apply lA_)); refine blk_put (cs := #[.int .i64 a0_0, .int .i64 a0_1, .int .i64 0, .int .i64 0, .int .i64 0, .bool false]) ?_ 2 _ rfl; (with_reducible repeat (first | apply lN_ | apply lD_ | apply lA_)); refine blk_put (cs := #[.int .i64 a0_0, .int .i64 0, .int .i64 0, .int .i64 0, .int .i64 0, .bool false]) ?_ 1 _ rfl; (with_reducible repeat (first | apply lN_ | apply lD_ | apply lA_)); refine blk_put (cs := #[.int .i64 0, .int .i64 0, .int .i64 0, .int .i64 0, .int .i64 0, .bool false]) ?_ 0 _ rfl; (with_reducible repeat (first | apply lN_ | apply lD_ | apply lA_)); refine blk_far ?_ NB280_279.out _; (with_reducible repeat (first | apply lN_ | apply lD_ | apply lA_)); exact BK280.out) Tryz.underlying37 rfl (by kernel_rfl)) rfl ?_
     exact ⟨ew_, bb2_ HB GE279 GE280⟩
    ·replace c35 := Bool.eq_false_iff.mpr c35
     subst c35
     have H1 : (some (a0_0, a0_1, a2, a0_3, a0_4, false)) = some (r1, r2, r3, r4, r5, r6) := by rw [if_neg (show ¬ (false = true) by decide)] at H; exact H
     clear H
     have H := H1
     clear H1
     simp only [Option.some.injEq, Prod.mk.injEq] at H
     obtain ⟨rfl, rfl, rfl, rfl, rfl, rfl⟩ := H
     go_enter Tryz.func142, Tryz.ntmps142
     go_wp2_with (first | ((with_reducible refine gate_dst (N := 3) rfl ?_); refine bx_ (cs := #[.int .i64 a0_0, .int .i64 a0_1, .int .i64 a0_2, .int .i64 a0_3, .int .i64 a0_4, .bool false]) (t := 37) ?_; intro gb279 hg w44 hbox hb; have BK279 := am_ (hbox); have GW279 := gz_ hg HB; have GE279 := gz_ hg HB; replace HB := am_ (bt_ HB hb); clear hb hbox hg) | ((with_reducible refine gate_dst (N := 6) rfl ?_); refine bx_ (cs := #[.int .i64 0, .int .i64 0, .int .i64 0, .int .i64 0, .int .i64 0, .bool false]) (t := 37) ?_; intro gb280 hg w45 hbox hb; have BK280 := am_ (hbox); have GW280 := gy_ hg (bb1_ HB GE279); have GE280 := gy_ hg (bb1_ HB GE279); replace HB := am_ (below_step (bb1_ HB GE279) hb); have NB279_280 := nl_ hg BK279; have NB280_279 := ng_ hg BK279; replace BK279 := am_ (lb_ BK279 hb); clear hb hbox hg; have hnb46 := NB279_280.out; have hnc46 := NB280_279.out; have hcz47_0 := cz0_ BK279; have hcz47_1 := cz1_ BK279; have hcz47_2 := cz2_ BK279; have hcz47_3 := cz3_ BK279; have hcz47_4 := cz4_ BK279; have hcz47_5 := cz5_ BK279; have hfz47_0 := fz_ BK279 0; have hfz47_1 := fz_ BK279 1; have hfz47_2 := fz_ BK279 2; have hfz47_3 := fz_ BK279 3; have hfz47_4 := fz_ BK279 4; have hfz47_5 := fz_ BK279 5; have hcz48_0 := cz0_ BK280; have hcz48_1 := cz1_ BK280; have hcz48_2 := cz2_ BK280; have hcz48_3 := cz3_ BK280; have hcz48_4 := cz4_ BK280; have hcz48_5 := cz5_ BK280; have hfz48_0 := fz_ BK280 0; have hfz48_1 := fz_ BK280 1; have hfz48_2 := fz_ BK280 2; have hfz48_3 := fz_ BK280 3; have hfz48_4 := fz_ BK280 4; have hfz48_5 := fz_ BK280 5))
     refine bodyPost_ret (results_cell_row rfl _ _ gb280 37 #[.int .i64 a0_0, .int .i64 a0_1, .int .i64 a2, .int .i64 a0_3, .int .i64 a0_4, .bool false] (0, 0) _ rfl (by (with_reducible repeat (first | apply lN_ | apply lD_ | apply lA_)); refine blk_put (cs := #[.int .i64 a0_0, .int .i64 a0_1, .int .i64 a2, .int .i64 a0_3, .int .i64 a0_4, .bool false]) ?_ 5 _ rfl; (with_reducible repeat (first | apply lN_ | apply lD_ | apply lA_)); refine blk_put (cs := #[.int .i64 a0_0, .int .i64 a0_1, .int .i64 a2, .int .i64 a0_3, .int .i64 0, .bool false]) ?_ 4 _ rfl; (with_reducible repeat (first | apply lN_ | apply lD_ | apply lA_)); refine blk_put (cs := #[.int .i64 a0_0, .int .i64 a0_1, .int .i64 a2, .int .i64 0, .int .i64 0, .bool false]) ?_ 3 _ rfl; (with_reducible repeat (first | apply lN_ | apply lD_ | apply lA_)); refine blk_put (cs := #[.int .i64 a0_0, .int .i64 a0_1, .int .i64 0, .int .i64 0, .int .i64 0, .bool false]) ?_ 2 _ rfl; (with_reducible repeat (first | apply lN_ | apply lD_ | apply lA_)); refine blk_put (cs := #[.int .i64 a0_0, .int .i64 0, .int .i64 0, .int .i64 0, .int .i64 0, .bool false]) ?_ 1 _ rfl; (with_reducible repeat (first | apply lN_ | apply lD_ | apply lA_)); refine blk_put (cs := #[.int .i64 0, .int .i64 0, .int .i64 0, .int .i64 0, .int .i64 0, .bool false]) ?_ 0 _ rfl; (with_reducible repeat (first | apply lN_ | apply lD_ | apply lA_)); refine blk_far ?_ NB280_279.out _; (with_reducible repeat (first | apply lN_ | apply lD_ | apply lA_)); refine blk_far ?_ NB280_279.out _; (with_reducible repeat (first | apply lN_ | apply lD_ | apply lA_)); exact BK280.out) Tryz.underlying37 rfl (by kernel_rfl)) rfl ?_
     exact ⟨ew_, bb2_ HB GE279 GE280⟩
   ·rw [if_neg c34] at H
    have c34b0 : (a1 == 2) = false := beq_eq_false_iff_ne.mpr c34
    have c34b1 : (a1 != 2) = true := bne_iff_ne.mpr c34
    by_cases c49 : a1 = 3
    ·rw [if_pos c49] at H
     have c49b0 : (a1 == 3) = true := beq_iff_eq.mpr c49
     have c49b1 : (a1 != 3) = false := bne_eq_false_iff_eq.mpr c49
     clear c49
     by_cases c50 : a0_5 = true
     ·subst c50
      have H1 : ((impl_Shape_maySpread.f a0_0 a0_1 a0_2 a2 a0_4 true).bind fun t284 => (some (a0_0, a0_1, a0_2, a2, a0_4, t284))) = some (r1, r2, r3, r4, r5, r6) := by rw [if_pos rfl] at H; exact H
      clear H
      have H := H1
      clear H1
      replace H := Option.bind_eq_some_iff.mp H
      obtain ⟨t284, A510, H⟩ := H
      try dsimp only at H
      have A51 := Aside0.mk A510
      clear A510
      simp only [Option.some.injEq, Prod.mk.injEq] at H
      obtain ⟨rfl, rfl, rfl, rfl, rfl, rfl⟩ := H
      go_enter Tryz.func142, Tryz.ntmps142
      go_wp2_with (first | ((with_reducible refine gate_dst (N := 3) rfl ?_); refine bx_ (cs := #[.int .i64 a0_0, .int .i64 a0_1, .int .i64 a0_2, .int .i64 a0_3, .int .i64 a0_4, .bool true]) (t := 37) ?_; intro gb279 hg w52 hbox hb; have BK279 := am_ (hbox); have GW279 := gz_ hg HB; have GE279 := gz_ hg HB; replace HB := am_ (bt_ HB hb); clear hb hbox hg) | ((with_reducible refine gate_dst (N := 6) rfl ?_); refine bx_ (cs := #[.int .i64 0, .int .i64 0, .int .i64 0, .int .i64 0, .int .i64 0, .bool false]) (t := 37) ?_; intro gb280 hg w53 hbox hb; have BK280 := am_ (hbox); have GW280 := gy_ hg (bb1_ HB GE279); have GE280 := gy_ hg (bb1_ HB GE279); replace HB := am_ (below_step (bb1_ HB GE279) hb); have NB279_280 := nl_ hg BK279; have NB280_279 := ng_ hg BK279; replace BK279 := am_ (lb_ BK279 hb); clear hb hbox hg; have hnb54 := NB279_280.out; have hnc54 := NB280_279.out; have hcz55_0 := cz0_ BK279; have hcz55_1 := cz1_ BK279; have hcz55_2 := cz2_ BK279; have hcz55_3 := cz3_ BK279; have hcz55_4 := cz4_ BK279; have hcz55_5 := cz5_ BK279; have hfz55_0 := fz_ BK279 0; have hfz55_1 := fz_ BK279 1; have hfz55_2 := fz_ BK279 2; have hfz55_3 := fz_ BK279 3; have hfz55_4 := fz_ BK279 4; have hfz55_5 := fz_ BK279 5) | (go_at_call 122; (with_reducible refine (impl_Shape_maySpread.calls (w := _) (h := A51.out)).mono ?_); rintro e w56 ⟨rfl, hb⟩; have n0_ := am_ (blk_below (g := gb279) (o := .cells #[.int .i64 a0_0, .int .i64 a0_1, .int .i64 a0_2, .int .i64 a2, .int .i64 a0_4, .bool true] 37 (0, 0)) (by (with_reducible repeat (first | apply lN_ | apply lD_ | apply lA_)); refine blk_put (cs := #[.int .i64 a0_0, .int .i64 a0_1, .int .i64 a0_2, .int .i64 a0_3, .int .i64 a0_4, .bool true]) ?_ 3 _ rfl; (with_reducible repeat (first | apply lN_ | apply lD_ | apply lA_)); exact BK279.out) hb); have n1_ := am_ (blk_below (g := gb280) (o := .cells #[.int .i64 0, .int .i64 0, .int .i64 0, .int .i64 0, .int .i64 0, .bool false] 37 (0, 0)) (by (with_reducible repeat (first | apply lN_ | apply lD_ | apply lA_)); refine blk_far ?_ NB280_279.out _; (with_reducible repeat (first | apply lN_ | apply lD_ | apply lA_)); exact BK280.out) hb); have n2_ := am_ (below_step (bb2_ HB GE279 GE280) hb); clear BK279; clear BK280; clear HB; have BK279 := n0_; have BK280 := n1_; have HB := n2_; clear n0_ n1_ n2_; (try clear hb); (try clear hb2); (try clear hk); (try clear hi); have hcz57_0 := cz0_ BK279; have hcz57_1 := cz1_ BK279; have hcz57_2 := cz2_ BK279; have hcz57_3 := cz3_ BK279; have hcz57_4 := cz4_ BK279; have hcz57_5 := cz5_ BK279; have hfz57_0 := fz_ BK279 0; have hfz57_1 := fz_ BK279 1; have hfz57_2 := fz_ BK279 2; have hfz57_3 := fz_ BK279 3; have hfz57_4 := fz_ BK279 4; have hfz57_5 := fz_ BK279 5; have hcz58_0 := cz0_ BK280; have hcz58_1 := cz1_ BK280; have hcz58_2 := cz2_ BK280; have hcz58_3 := cz3_ BK280; have hcz58_4 := cz4_ BK280; have hcz58_5 := cz5_ BK280; have hfz58_0 := fz_ BK280 0; have hfz58_1 := fz_ BK280 1; have hfz58_2 := fz_ BK280 2; have hfz58_3 := fz_ BK280 3; have hfz58_4 := fz_ BK280 4; have hfz58_5 := fz_ BK280 5))
      refine bodyPost_ret (results_cell_row rfl _ _ gb280 37 #[.int .i64 a0_0, .int .i64 a0_1, .int .i64 a0_2, .int .i64 a2, .int .i64 a0_4, .bool t284] (0, 0) _ rfl (by (with_reducible repeat (first | apply lN_ | apply lD_ | apply lA_)); refine blk_put (cs := #[.int .i64 a0_0, .int .i64 a0_1, .int .i64 a0_2, .int .i64 a2, .int .i64 a0_4, .bool false]) ?_ 5 _ rfl; (with_reducible repeat (first | apply lN_ | apply lD_ | apply lA_)); refine blk_put (cs := #[.int .i64 a0_0, .int .i64 a0_1, .int .i64 a0_2, .int .i64 a2, .int .i64 0, .bool false]) ?_ 4 _ rfl; (with_reducible repeat (first | apply lN_ | apply lD_ | apply lA_)); refine blk_put (cs := #[.int .i64 a0_0, .int .i64 a0_1, .int .i64 a0_2, .int .i64 0, .int .i64 0, .bool false]) ?_ 3 _ rfl; (with_reducible repeat (first | apply lN_ | apply lD_ | apply lA_)); refine blk_put (cs := #[.int .i64 a0_0, .int .i64 a0_1, .int .i64 0, .int .i64 0, .int .i64 0, .bool false]) ?_ 2 _ rfl; (with_reducible repeat (first | apply lN_ | apply lD_ | apply lA_)); refine blk_put (cs := #[.int .i64 a0_0, .int .i64 0, .int .i64 0, .int .i64 0, .int .i64 0, .bool false]) ?_ 1 _ rfl; (with_reducible repeat (first | apply lN_ | apply lD_ | apply lA_)); refine blk_put (cs := #[.int .i64 0, .int .i64 0, .int .i64 0, .int .i64 0, .int .i64 0, .bool false]) ?_ 0 _ rfl; (with_reducible repeat (first | apply lN_ | apply lD_ | apply lA_)); refine blk_far ?_ NB280_279.out _; (with_reducible repeat (first | apply lN_ | apply lD_ | apply lA_)); exact BK280.out) Tryz.underlying37 rfl (by kernel_rfl)) rfl ?_
      exact ⟨ew_, bb2_ HB GE279 GE280⟩
     ·replace c50 := Bool.eq_false_iff.mpr c50
      subst c50
      have H1 : (some (a0_0, a0_1, a0_2, a2, a0_4, false)) = some (r1, r2, r3, r4, r5, r6) := by rw [if_neg (show ¬ (false = true) by decide)] at H; exact H
      clear H
      have H := H1
      clear H1
      simp only [Option.some.injEq, Prod.mk.injEq] at H
      obtain ⟨rfl, rfl, rfl, rfl, rfl, rfl⟩ := H
      go_enter Tryz.func142, Tryz.ntmps142
      go_wp2_with (first | ((with_reducible refine gate_dst (N := 3) rfl ?_); refine bx_ (cs := #[.int .i64 a0_0, .int .i64 a0_1, .int .i64 a0_2, .int .i64 a0_3, .int .i64 a0_4, .bool false]) (t := 37) ?_; intro gb279 hg w59 hbox hb; have BK279 := am_ (hbox); have GW279 := gz_ hg HB; have GE279 := gz_ hg HB; replace HB := am_ (bt_ HB hb); clear hb hbox hg) | ((with_reducible refine gate_dst (N := 6) rfl ?_); refine bx_ (cs := #[.int .i64 0, .int .i64 0, .int .i64 0, .int .i64 0, .int .i64 0, .bool false]) (t := 37) ?_; intro gb280 hg w60 hbox hb; have BK280 := am_ (hbox); have GW280 := gy_ hg (bb1_ HB GE279); have GE280 := gy_ hg (bb1_ HB GE279); replace HB := am_ (below_step (bb1_ HB GE279) hb); have NB279_280 := nl_ hg BK279; have NB280_279 := ng_ hg BK279; replace BK279 := am_ (lb_ BK279 hb); clear hb hbox hg; have hnb61 := NB279_280.out; have hnc61 := NB280_279.out; have hcz62_0 := cz0_ BK279; have hcz62_1 := cz1_ BK279; have hcz62_2 := cz2_ BK279; have hcz62_3 := cz3_ BK279; have hcz62_4 := cz4_ BK279; have hcz62_5 := cz5_ BK279; have hfz62_0 := fz_ BK279 0; have hfz62_1 := fz_ BK279 1; have hfz62_2 := fz_ BK279 2; have hfz62_3 := fz_ BK279 3; have hfz62_4 := fz_ BK279 4; have hfz62_5 := fz_ BK279 5; have hcz63_0 := cz0_ BK280; have hcz63_1 := cz1_ BK280; have hcz63_2 := cz2_ BK280; have hcz63_3 := cz3_ BK280; have hcz63_4 := cz4_ BK280; have hcz63_5 := cz5_ BK280; have hfz63_0 := fz_ BK280 0; have hfz63_1 := fz_ BK280 1; have hfz63_2 := fz_ BK280 2; have hfz63_3 := fz_ BK280 3; have hfz63_4 := fz_ BK280 4; have hfz63_5 := fz_ BK280 5))
      refine bodyPost_ret (results_cell_row rfl _ _ gb280 37 #[.int .i64 a0_0, .int .i64 a0_1, .int .i64 a0_2, .int .i64 a2, .int .i64 a0_4, .bool false] (0, 0) _ rfl (by (with_reducible repeat (first | apply lN_ | apply lD_ | apply lA_)); refine blk_put (cs := #[.int .i64 a0_0, .int .i64 a0_1, .int .i64 a0_2, .int .i64 a2, .int .i64 a0_4, .bool false]) ?_ 5 _ rfl; (with_reducible repeat (first | apply lN_ | apply lD_ | apply lA_)); refine blk_put (cs := #[.int .i64 a0_0, .int .i64 a0_1, .int .i64 a0_2, .int .i64 a2, .int .i64 0, .bool false]) ?_ 4 _ rfl; (with_reducible repeat (first | apply lN_ | apply lD_ | apply lA_)); refine blk_put (cs := #[.int .i64 a0_0, .int .i64 a0_1, .int .i64 a0_2, .int .i64 0, .int .i64 0, .bool false]) ?_ 3 _ rfl; (with_reducible repeat (first | apply lN_ | apply lD_ | apply lA_)); refine blk_put (cs := #[.int .i64 a0_0, .int .i64 a0_1, .int .i64 0, .int .i64 0, .int .i64 0, .bool false]) ?_ 2 _ rfl; (with_reducible repeat (first | apply lN_ | apply lD_ | apply lA_)); refine blk_put (cs := #[.int .i64 a0_0, .int .i64 0, .int .i64 0, .int .i64 0, .int .i64 0, .bool false]) ?_ 1 _ rfl; (with_reducible repeat (first | apply lN_ | apply lD_ | apply lA_)); refine blk_put (cs := #[.int .i64 0, .int .i64 0, .int .i64 0, .int .i64 0, .int .i64 0, .bool false]) ?_ 0 _ rfl; (with_reducible repeat (first | apply lN_ | apply lD_ | apply lA_)); refine blk_far ?_ NB280_279.out _; (with_reducible repeat (first | apply lN_ | apply lD_ | apply lA_)); refine blk_far ?_ NB280_279.out _; (with_reducible repeat (first | apply lN_ | apply lD_ | apply lA_)); exact BK280.out) Tryz.underlying37 rfl (by kernel_rfl)) rfl ?_
      exact ⟨ew_, bb2_ HB GE279 GE280⟩
    ·rw [if_neg c49] at H
     have c49b0 : (a1 == 3) = false := beq_eq_false_iff_ne.mpr c49
     have c49b1 : (a1 != 3) = true := bne_iff_ne.mpr c49
     by_cases c64 : a0_5 = true
     ·subst c64
      have H1 : ((impl_Shape_maySpread.f a0_0 a0_1 a0_2 a0_3 a2 true).bind fun t285 => (some (a0_0, a0_1, a0_2, a0_3, a2, t285))) = some (r1, r2, r3, r4, r5, r6) := by rw [if_pos rfl] at H; exact H
      clear H
      have H := H1
      clear H1
      replace H := Option.bind_eq_some_iff.mp H
      obtain ⟨t285, A650, H⟩ := H
      try dsimp only at H
      have A65 := Aside0.mk A650
      clear A650
      simp only [Option.some.injEq, Prod.mk.injEq] at H
      obtain ⟨rfl, rfl, rfl, rfl, rfl, rfl⟩ := H
      go_enter Tryz.func142, Tryz.ntmps142
      go_wp2_with (first | ((with_reducible refine gate_dst (N := 3) rfl ?_); refine bx_ (cs := #[.int .i64 a0_0, .int .i64 a0_1, .int .i64 a0_2, .int .i64 a0_3, .int .i64 a0_4, .bool true]) (t := 37) ?_; intro gb279 hg w66 hbox hb; have BK279 := am_ (hbox); have GW279 := gz_ hg HB; have GE279 := gz_ hg HB; replace HB := am_ (bt_ HB hb); clear hb hbox hg) | ((with_reducible refine gate_dst (N := 6) rfl ?_); refine bx_ (cs := #[.int .i64 0, .int .i64 0, .int .i64 0, .int .i64 0, .int .i64 0, .bool false]) (t := 37) ?_; intro gb280 hg w67 hbox hb; have BK280 := am_ (hbox); have GW280 := gy_ hg (bb1_ HB GE279); have GE280 := gy_ hg (bb1_ HB GE279); replace HB := am_ (below_step (bb1_ HB GE279) hb); have NB279_280 := nl_ hg BK279; have NB280_279 := ng_ hg BK279; replace BK279 := am_ (lb_ BK279 hb); clear hb hbox hg; have hnb68 := NB279_280.out; have hnc68 := NB280_279.out; have hcz69_0 := cz0_ BK279; have hcz69_1 := cz1_ BK279; have hcz69_2 := cz2_ BK279; have hcz69_3 := cz3_ BK279; have hcz69_4 := cz4_ BK279; have hcz69_5 := cz5_ BK279; have hfz69_0 := fz_ BK279 0; have hfz69_1 := fz_ BK279 1; have hfz69_2 := fz_ BK279 2; have hfz69_3 := fz_ BK279 3; have hfz69_4 := fz_ BK279 4; have hfz69_5 := fz_ BK279 5) | (go_at_call 122; (with_reducible refine (impl_Shape_maySpread.calls (w := _) (h := A65.out)).mono ?_); rintro e w70 ⟨rfl, hb⟩; have n0_ := am_ (blk_below (g := gb279) (o := .cells #[.int .i64 a0_0, .int .i64 a0_1, .int .i64 a0_2, .int .i64 a0_3, .int .i64 a2, .bool true] 37 (0, 0)) (by (with_reducible repeat (first | apply lN_ | apply lD_ | apply lA_)); refine blk_put (cs := #[.int .i64 a0_0, .int .i64 a0_1, .int .i64 a0_2, .int .i64 a0_3, .int .i64 a0_4, .bool true]) ?_ 4 _ rfl; (with_reducible repeat (first | apply lN_ | apply lD_ | apply lA_)); exact BK279.out) hb); have n1_ := am_ (blk_below (g := gb280) (o := .cells #[.int .i64 0, .int .i64 0, .int .i64 0, .int .i64 0, .int .i64 0, .bool false] 37 (0, 0)) (by (with_reducible repeat (first | apply lN_ | apply lD_ | apply lA_)); refine blk_far ?_ NB280_279.out _; (with_reducible repeat (first | apply lN_ | apply lD_ | apply lA_)); exact BK280.out) hb); have n2_ := am_ (below_step (bb2_ HB GE279 GE280) hb); clear BK279; clear BK280; clear HB; have BK279 := n0_; have BK280 := n1_; have HB := n2_; clear n0_ n1_ n2_; (try clear hb); (try clear hb2); (try clear hk); (try clear hi); have hcz71_0 := cz0_ BK279; have hcz71_1 := cz1_ BK279; have hcz71_2 := cz2_ BK279; have hcz71_3 := cz3_ BK279; have hcz71_4 := cz4_ BK279; have hcz71_5 := cz5_ BK279; have hfz71_0 := fz_ BK279 0; have hfz71_1 := fz_ BK279 1; have hfz71_2 := fz_ BK279 2; have hfz71_3 := fz_ BK279 3; have hfz71_4 := fz_ BK279 4; have hfz71_5 := fz_ BK279 5; have hcz72_0 := cz0_ BK280; have hcz72_1 := cz1_ BK280; have hcz72_2 := cz2_ BK280; have hcz72_3 := cz3_ BK280; have hcz72_4 := cz4_ BK280; have hcz72_5 := cz5_ BK280; have hfz72_0 := fz_ BK280 0; have hfz72_1 := fz_ BK280 1; have hfz72_2 := fz_ BK280 2; have hfz72_3 := fz_ BK280 3; have hfz72_4 := fz_ BK280 4; have hfz72_5 := fz_ BK280 5))
      refine bodyPost_ret (results_cell_row rfl _ _ gb280 37 #[.int .i64 a0_0, .int .i64 a0_1, .int .i64 a0_2, .int .i64 a0_3, .int .i64 a2, .bool t285] (0, 0) _ rfl (by (with_reducible repeat (first | apply lN_ | apply lD_ | apply lA_)); refine blk_put (cs := #[.int .i64 a0_0, .int .i64 a0_1, .int .i64 a0_2, .int .i64 a0_3, .int .i64 a2, .bool false]) ?_ 5 _ rfl; (with_reducible repeat (first | apply lN_ | apply lD_ | apply lA_)); refine blk_put (cs := #[.int .i64 a0_0, .int .i64 a0_1, .int .i64 a0_2, .int .i64 a0_3, .int .i64 0, .bool false]) ?_ 4 _ rfl; (with_reducible repeat (first | apply lN_ | apply lD_ | apply lA_)); refine blk_put (cs := #[.int .i64 a0_0, .int .i64 a0_1, .int .i64 a0_2, .int .i64 0, .int .i64 0, .bool false]) ?_ 3 _ rfl; (with_reducible repeat (first | apply lN_ | apply lD_ | apply lA_)); refine blk_put (cs := #[.int .i64 a0_0, .int .i64 a0_1, .int .i64 0, .int .i64 0, .int .i64 0, .bool false]) ?_ 2 _ rfl; (with_reducible repeat (first | apply lN_ | apply lD_ | apply lA_)); refine blk_put (cs := #[.int .i64 a0_0, .int .i64 0, .int .i64 0, .int .i64 0, .int .i64 0, .bool false]) ?_ 1 _ rfl; (with_reducible repeat (first | apply lN_ | apply lD_ | apply lA_)); refine blk_put (cs := #[.int .i64 0, .int .i64 0, .int .i64 0, .int .i64 0, .int .i64 0, .bool false]) ?_ 0 _ rfl; (with_reducible repeat (first | apply lN_ | apply lD_ | apply lA_)); refine blk_far ?_ NB280_279.out _; (with_reducible repeat (first | apply lN_ | apply lD_ | apply lA_)); exact BK280.out) Tryz.underlying37 rfl (by kernel_rfl)) rfl ?_
      exact ⟨ew_, bb2_ HB GE279 GE280⟩
     ·replace c64 := Bool.eq_false_iff.mpr c64
      subst c64
      have H1 : (some (a0_0, a0_1, a0_2, a0_3, a2, false)) = some (r1, r2, r3, r4, r5, r6) := by rw [if_neg (show ¬ (false = true) by decide)] at H; exact H
      clear H
      have H := H1
      clear H1
      simp only [Option.some.injEq, Prod.mk.injEq] at H
      obtain ⟨rfl, rfl, rfl, rfl, rfl, rfl⟩ := H
      go_enter Tryz.func142, Tryz.ntmps142
      go_wp2_with (first | ((with_reducible refine gate_dst (N := 3) rfl ?_); refine bx_ (cs := #[.int .i64 a0_0, .int .i64 a0_1, .int .i64 a0_2, .int .i64 a0_3, .int .i64 a0_4, .bool false]) (t := 37) ?_; intro gb279 hg w73 hbox hb; have BK279 := am_ (hbox); have GW279 := gz_ hg HB; have GE279 := gz_ hg HB; replace HB := am_ (bt_ HB hb); clear hb hbox hg) | ((with_reducible refine gate_dst (N := 6) rfl ?_); refine bx_ (cs := #[.int .i64 0, .int .i64 0, .int .i64 0, .int .i64 0, .int .i64 0, .bool false]) (t := 37) ?_; intro gb280 hg w74 hbox hb; have BK280 := am_ (hbox); have GW280 := gy_ hg (bb1_ HB GE279); have GE280 := gy_ hg (bb1_ HB GE279); replace HB := am_ (below_step (bb1_ HB GE279) hb); have NB279_280 := nl_ hg BK279; have NB280_279 := ng_ hg BK279; replace BK279 := am_ (lb_ BK279 hb); clear hb hbox hg; have hnb75 := NB279_280.out; have hnc75 := NB280_279.out; have hcz76_0 := cz0_ BK279; have hcz76_1 := cz1_ BK279; have hcz76_2 := cz2_ BK279; have hcz76_3 := cz3_ BK279; have hcz76_4 := cz4_ BK279; have hcz76_5 := cz5_ BK279; have hfz76_0 := fz_ BK279 0; have hfz76_1 := fz_ BK279 1; have hfz76_2 := fz_ BK279 2; have hfz76_3 := fz_ BK279 3; have hfz76_4 := fz_ BK279 4; have hfz76_5 := fz_ BK279 5; have hcz77_0 := cz0_ BK280; have hcz77_1 := cz1_ BK280; have hcz77_2 := cz2_ BK280; have hcz77_3 := cz3_ BK280; have hcz77_4 := cz4_ BK280; have hcz77_5 := cz5_ BK280; have hfz77_0 := fz_ BK280 0; have hfz77_1 := fz_ BK280 1; have hfz77_2 := fz_ BK280 2; have hfz77_3 := fz_ BK280 3; have hfz77_4 := fz_ BK280 4; have hfz77_5 := fz_ BK280 5))
      refine bodyPost_ret (results_cell_row rfl _ _ gb280 37 #[.int .i64 a0_0, .int .i64 a0_1, .int .i64 a0_2, .int .i64 a0_3, .int .i64 a2, .bool false] (0, 0) _ rfl (by (with_reducible repeat (first | apply lN_ | apply lD_ | apply lA_)); refine blk_put (cs := #[.int .i64 a0_0, .int .i64 a0_1, .int .i64 a0_2, .int .i64 a0_3, .int .i64 a2, .bool false]) ?_ 5 _ rfl; (with_reducible repeat (first | apply lN_ | apply lD_ | apply lA_)); refine blk_put (cs := #[.int .i64 a0_0, .int .i64 a0_1, .int .i64 a0_2, .int .i64 a0_3, .int .i64 0, .bool false]) ?_ 4 _ rfl; (with_reducible repeat (first | apply lN_ | apply lD_ | apply lA_)); refine blk_put (cs := #[.int .i64 a0_0, .int .i64 a0_1, .int .i64 a0_2, .int .i64 0, .int .i64 0, .bool false]) ?_ 3 _ rfl; (with_reducible repeat (first | apply lN_ | apply lD_ | apply lA_)); refine blk_put (cs := #[.int .i64 a0_0, .int .i64 a0_1, .int .i64 0, .int .i64 0, .int .i64 0, .bool false]) ?_ 2 _ rfl; (with_reducible repeat (first | apply lN_ | apply lD_ | apply lA_)); refine blk_put (cs := #[.int .i64 a0_0, .int .i64 0, .int .i64 0, .int .i64 0, .int .i64 0, .bool false]) ?_ 1 _ rfl; (with_reducible repeat (first | apply lN_ | apply lD_ | apply lA_)); refine blk_put (cs := #[.int .i64 0, .int .i64 0, .int .i64 0, .int .i64 0, .int .i64 0, .bool false]) ?_ 0 _ rfl; (with_reducible repeat (first | apply lN_ | apply lD_ | apply lA_)); refine blk_far ?_ NB280_279.out _; (with_reducible repeat (first | apply lN_ | apply lD_ | apply lA_)); refine blk_far ?_ NB280_279.out _; (with_reducible repeat (first | apply lN_ | apply lD_ | apply lA_)); exact BK280.out) Tryz.underlying37 rfl (by kernel_rfl)) rfl ?_
      exact ⟨ew_, bb2_ HB GE279 GE280⟩

end Go.Proofs.YtmbffgkejknfaaaGreatDoor.PA
