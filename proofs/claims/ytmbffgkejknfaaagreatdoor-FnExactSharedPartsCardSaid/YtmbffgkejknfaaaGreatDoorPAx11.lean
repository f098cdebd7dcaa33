-- Written by a program of this session (wip/tools/myprint.py). Not trusted: Lean checks it.
import Derived.Test.YtmbffgkejknfaaaGreatDoorSq4
import Derived.Test.YtmbffgkejknfaaaGreatDoorPAx0
import Derived.Test.YtmbffgkejknfaaaGreatDoorPAx5
import Derived.Test.YtmbffgkejknfaaaGreatDoorPAx7
import Derived.Test.YtmbffgkejknfaaaGreatDoorPAx10
namespace Go.Proofs.YtmbffgkejknfaaaGreatDoor.PA
open Go.RowKit Go.Proofs.YtmbffgkejknfaaaGreatDoorW.PrintWords Go.Proofs.YtmbffgkejknfaaaGreatDoorW.PrintLast Go.Proofs.YtmbffgkejknfaaaGreatDoorW.PrintMore
attribute [local go_sem] max2_int min2_int max_two min_two max_three min_three max_four min_four   -- for this text's walks alone
set_option linter.unusedVariables false
set_option linter.unusedSimpArgs false

attribute [local go_sem high] eqA42
/-! ### spec_siGood: function 26 -/
def spec_siGood.f (k : Nat) (a0_0 a0_1 : Int) (a0_2 a0_3 a0_4 : Int) (a0_5 : Bool) (a0_6 a0_7 : Int) (a0_8 a0_9 : Int) (a0_10 : Bool) (a0_11 : ByteArray) (a0_12 : Int) (a0_13 : Bool) (a0_14 a0_15 : Int) (a0_16 a0_17 a0_18 : Int) (a0_19 : Bool) (a0_20 a0_21 : Int) (a0_22 a0_23 : Int) (a0_24 : Bool) (a0_25 : ByteArray) (a0_26 : Int) : Option (Bool) := (spec_siHand.f k a0_0 a0_1 a0_2 a0_3 a0_4 a0_5 a0_6 a0_7 a0_8 a0_9 a0_10 a0_11 a0_12).bind fun t198 => (if t198 = true then (if a0_13 = true then ((spec_siHand.f k a0_14 a0_15 a0_16 a0_17 a0_18 a0_19 a0_20 a0_21 a0_22 a0_23 a0_24 a0_25 a0_26).bind fun t199 => (if t199 = true then ((spec_siBroken.f k a0_0 a0_1 a0_2 a0_3 a0_4 a0_5 a0_6 a0_7 a0_8 a0_9 a0_10 a0_11 a0_12 a0_14 a0_15 a0_16 a0_17 a0_18 a0_19 a0_20 a0_21 a0_22 a0_23 a0_24 a0_25 a0_26).bind fun t200 => (some (t200 == 0))) else (some false))) else (some ((a0_14 == 0 && (a0_15 == 0 && (a0_16 == 0 && (a0_17 == 0 && (a0_18 == 0 && (!a0_19)))))) && ((a0_20 == 0 && (a0_21 == 0)) && ((a0_22 == 0 && (a0_23 == 0 && (!a0_24))) && ((a0_25.toList == ([] : List UInt8) && (a0_26 == 0)))))))) else (some false))
theorem spec_siGood.mono : ∀ a0 a1 a2 a3 a4 a5 a6 a7 a8 a9 a10 a11 a12 a13 a14 a15 a16 a17 a18 a19 a20 a21 a22 a23 a24 a25 a26 k, LeO (spec_siGood.f k a0 a1 a2 a3 a4 a5 a6 a7 a8 a9 a10 a11 a12 a13 a14 a15 a16 a17 a18 a19 a20 a21 a22 a23 a24 a25 a26) (spec_siGood.f (k + 1) a0 a1 a2 a3 a4 a5 a6 a7 a8 a9 a10 a11 a12 a13 a14 a15 a16 a17 a18 a19 a20 a21 a22 a23 a24 a25 a26) := by
 intro a0 a1 a2 a3 a4 a5 a6 a7 a8 a9 a10 a11 a12 a13 a14 a15 a16 a17 a18 a19 a20 a21 a22 a23 a24 a25 a26 k
 unfold spec_siGood.f
 repeat' first
   | (with_reducible exact spec_siBroken.mono _ _ _ _ _ _ _ _ _ _ _ _ _ _ _ _ _ _ _ _ _ _ _ _ _ _ _)
   | (with_reducible exact spec_siHand.mono _ _ _ _ _ _ _ _ _ _ _ _ _ _)
   | (with_reducible exact LeO.refl _)
   | (with_reducible exact LeO.none _)
   | (with_reducible refine LeO.ite ?_ ?_)
   | (with_reducible refine LeO.bind ?_ (fun _ => ?_))
   | exact LeO.none _
   | refine LeO.ite ?_ ?_
   | refine LeO.bind ?_ (fun _ => ?_)
set_option maxHeartbeats 8000000 in
set_option maxRecDepth 100000 in
theorem spec_siGood.calls (k : Nat) (a0_0 a0_1 : Int) (a0_2 a0_3 a0_4 : Int) (a0_5 : Bool) (a0_6 a0_7 : Int) (a0_8 a0_9 : Int) (a0_10 : Bool) (a0_11 : ByteArray) (a0_12 : Int) (a0_13 : Bool) (a0_14 a0_15 : Int) (a0_16 a0_17 a0_18 : Int) (a0_19 : Bool) (a0_20 a0_21 : Int) (a0_22 a0_23 : Int) (a0_24 : Bool) (a0_25 : ByteArray) (a0_26 : Int) (r : Bool) (w : World) (h : spec_siGood.f k a0_0 a0_1 a0_2 a0_3 a0_4 a0_5 a0_6 a0_7 a0_8 a0_9 a0_10 a0_11 a0_12 a0_13 a0_14 a0_15 a0_16 a0_17 a0_18 a0_19 a0_20 a0_21 a0_22 a0_23 a0_24 a0_25 a0_26 = some r) :
  Calls Tryz.prog 26 #[.agg #[.int .i64 a0_0, .int .i64 a0_1, .int .i64 a0_2, .int .i64 a0_3, .int .i64 a0_4, .bool a0_5, .int .i64 a0_6, .int .i64 a0_7, .int .i64 a0_8, .int .i64 a0_9, .bool a0_10, .string a0_11, .int .i64 a0_12, .bool a0_13, .int .i64 a0_14, .int .i64 a0_15, .int .i64 a0_16, .int .i64 a0_17, .int .i64 a0_18, .bool a0_19, .int .i64 a0_20, .int .i64 a0_21, .int .i64 a0_22, .int .i64 a0_23, .bool a0_24, .string a0_25, .int .i64 a0_26]] w fun e w' => e = .returned (.bool r) ∧ Below w.heap.size w w' := by
 have hu44 := Tryz.underlying44
 have hu42 := Tryz.underlying42
 have HB := am_ (Below.refl w.heap.size w)
 have H : ((spec_siHand.f k a0_0 a0_1 a0_2 a0_3 a0_4 a0_5 a0_6 a0_7 a0_8 a0_9 a0_10 a0_11 a0_12).bind fun t198 => (if t198 = true then (if a0_13 = true then ((spec_siHand.f k a0_14 a0_15 a0_16 a0_17 a0_18 a0_19 a0_20 a0_21 a0_22 a0_23 a0_24 a0_25 a0_26).bind fun t199 => (if t199 = true then ((spec_siBroken.f k a0_0 a0_1 a0_2 a0_3 a0_4 a0_5 a0_6 a0_7 a0_8 a0_9 a0_10 a0_11 a0_12 a0_14 a0_15 a0_16 a0_17 a0_18 a0_19 a0_20 a0_21 a0_22 a0_23 a0_24 a0_25 a0_26).bind fun t200 => (some (t200 == 0))) else (some false))) else (some ((a0_14 == 0 && (a0_15 == 0 && (a0_16 == 0 && (a0_17 == 0 && (a0_18 == 0 && (!a0_19)))))) && ((a0_20 == 0 && (a0_21 == 0)) && ((a0_22 == 0 && (a0_23 == 0 && (!a0_24))) && ((a0_25.toList == ([] : List UInt8) && (a0_26 == 0)))))))) else (some false))) = some r := h
 clear h
 replace H := Option.bind_eq_some_iff.mp H
 obtain ⟨t198, A20, H⟩ := H
 try dsimp only at H
 have A2 := Aside0.mk A20
 clear A20
 by_cases c3 : t198 = true
 ·subst c3
  have H1 : (if a0_13 = true then ((spec_siHand.f k a0_14 a0_15 a0_16 a0_17 a0_18 a0_19 a0_20 a0_21 a0_22 a0_23 a0_24 a0_25 a0_26).bind fun t199 => (if t199 = true then ((spec_siBroken.f k a0_0 a0_1 a0_2 a0_3 a0_4 a0_5 a0_6 a0_7 a0_8 a0_9 a0_10 a0_11 a0_12 a0_14 a0_15 a0_16 a0_17 a0_18 a0_19 a0_20 a0_21 a0_22 a0_23 a0_24 a0_25 a0_26).bind fun t200 => (some (t200 == 0))) else (some false))) else (some ((a0_14 == 0 && (a0_15 == 0 && (a0_16 == 0 && (a0_17 == 0 && (a0_18 == 0 && (!a0_19)))))) && ((a0_20 == 0 && (a0_21 == 0)) && ((a0_22 == 0 && (a0_23 == 0 && (!a0_24))) && ((a0_25.toList == ([] : List UInt8) && (a0_26 == 0)))))))) = some r := by rw [if_pos rfl] at H; exact H
  clear H
  have H := H1
  clear H1
  by_cases c4 : a0_13 = true
  ·subst c4
   have H1 : ((spec_siHand.f k a0_14 a0_15 a0_16 a0_17 a0_18 a0_19 a0_20 a0_21 a0_22 a0_23 a0_24 a0_25 a0_26).bind fun t199 => (if t199 = true then ((spec_siBroken.f k a0_0 a0_1 a0_2 a0_3 a0_4 a0_5 a0_6 a0_7 a0_8 a0_9 a0_10 a0_11 a0_12 a0_14 a0_15 a0_16 a0_17 a0_18 a0_19 a0_20 a0_21 a0_22 a0_23 a0_24 a0_25 a0_26).bind fun t200 => (some (t200 == 0))) else (some false))) = some r := by rw [if_pos rfl] at H; exact H
   clear H
   have H := H1
   clear H1
   replace H := Option.bind_eq_some_iff.mp H
   obtain ⟨t199, A50, H⟩ := H
   try dsimp only at H
   have A5 := Aside0.mk A50
   clear A50
   by_cases c6 : t199 = true
   ·subst c6
    have H1 : ((spec_siBroken.f k a0_0 a0_1 a0_2 a0_3 a0_4 a0_5 a0_6 a0_7 a0_8 a0_9 a0_10 a0_11 a0_12 a0_14 a0_15 a0_16 a0_17 a0_18 a0_19 a0_20 a0_21 a0_22 a0_23 a0_24 a0_25 a0_26).bind fun t200 => (some (t200 == 0))) = some r := by rw [if_pos rfl] at H; exact H
    clear H
    have H := H1
    clear H1
    replace H := Option.bind_eq_some_iff.mp H
    obtain ⟨t200, A70, H⟩ := H
    try dsimp only at H
    have A7 := Aside0.mk A70
    clear A70
    obtain rfl := Option.some.inj H
    go_enter Tryz.func26, Tryz.ntmps26
    go_wp2_with (first | ((with_reducible refine gate_dst (N := 1) rfl ?_); refine bx_ (cs := #[.int .i64 a0_0, .int .i64 a0_1, .int .i64 a0_2, .int .i64 a0_3, .int .i64 a0_4, .bool a0_5, .int .i64 a0_6, .int .i64 a0_7, .int .i64 a0_8, .int .i64 a0_9, .bool a0_10, .string a0_11, .int .i64 a0_12, .bool true, .int .i64 a0_14, .int .i64 a0_15, .int .i64 a0_16, .int .i64 a0_17, .int .i64 a0_18, .bool a0_19, .int .i64 a0_20, .int .i64 a0_21, .int .i64 a0_22, .int .i64 a0_23, .bool a0_24, .string a0_25, .int .i64 a0_26]) (t := 44) ?_; intro gb197 hg w8 hbox hb; have BK197 := am_ (hbox); have GW197 := gz_ hg HB; have GE197 := gz_ hg HB; replace HB := am_ (bt_ HB hb); clear hb hbox hg; have hcz9_0 := cz0_ BK197; have hcz9_1 := cz1_ BK197; have hcz9_2 := cz2_ BK197; have hcz9_3 := cz3_ BK197; have hcz9_4 := cz4_ BK197; have hcz9_5 := cz5_ BK197; have hcz9_6 := cz6_ BK197; have hcz9_7 := cz7_ BK197; have hcz9_8 := cz8_ BK197; have hcz9_9 := cz9_ BK197; have hcz9_10 := cz10_ BK197; have hcz9_11 := cz11_ BK197; have hcz9_12 := cz12_ BK197; have hcz9_13 := cz13_ BK197; have hcz9_14 := cz14_ BK197; have hcz9_15 := cz15_ BK197; have hcz9_16 := cz16_ BK197; have hcz9_17 := cz17_ BK197; have hcz9_18 := cz18_ BK197; have hcz9_19 := cz19_ BK197; have hcz9_20 := cz20_ BK197; have hcz9_21 := cz21_ BK197; have hcz9_22 := cz22_ BK197; have hcz9_23 := cz23_ BK197; have hcz9_24 := cz24_ BK197; have hcz9_25 := cz25_ BK197; have hcz9_26 := cz26_ BK197) | ((with_reducible refine gate_callee (f := 45) rfl ?_); refine goesL_ (some 5) rfl rfl Tryz.func45 (by kernel_rfl) rfl #[.agg #[.int .i64 a0_0, .int .i64 a0_1, .int .i64 a0_2, .int .i64 a0_3, .int .i64 a0_4, .bool a0_5, .int .i64 a0_6, .int .i64 a0_7, .int .i64 a0_8, .int .i64 a0_9, .bool a0_10, .string a0_11, .int .i64 a0_12]] rfl args_ ?_; (with_reducible refine (spec_siHand.calls (w := _) (h := A2.out)).mono ?_); rintro e w10 ⟨rfl, hb⟩; refine ⟨_, rfl, ?_⟩; replace BK197 := am_ (lb_ BK197 hb); replace HB := am_ (below_step (bb1_ HB GE197) hb); (try clear hb); (try clear hb2); (try clear hk); (try clear hi); have hcz11_0 := cz0_ BK197; have hcz11_1 := cz1_ BK197; have hcz11_2 := cz2_ BK197; have hcz11_3 := cz3_ BK197; have hcz11_4 := cz4_ BK197; have hcz11_5 := cz5_ BK197; have hcz11_6 := cz6_ BK197; have hcz11_7 := cz7_ BK197; have hcz11_8 := cz8_ BK197; have hcz11_9 := cz9_ BK197; have hcz11_10 := cz10_ BK197; have hcz11_11 := cz11_ BK197; have hcz11_12 := cz12_ BK197; have hcz11_13 := cz13_ BK197; have hcz11_14 := cz14_ BK197; have hcz11_15 := cz15_ BK197; have hcz11_16 := cz16_ BK197; have hcz11_17 := cz17_ BK197; have hcz11_18 := cz18_ BK197; have hcz11_19 := cz19_ BK197; have hcz11_20 := cz20_ BK197; have hcz11_21 := cz21_ BK197; have hcz11_22 := cz22_ BK197; have hcz11_23 := cz23_ BK197; have hcz11_24 := cz24_ BK197; have hcz11_25 := cz25_ BK197; have hcz11_26 := cz26_ BK197) | ((with_reducible refine gate_callee (f := 45) rfl ?_); refine goesL_ (some 16) rfl rfl Tryz.func45 (by kernel_rfl) rfl #[.agg #[.int .i64 a0_14, .int .i64 a0_15, .int .i64 a0_16, .int .i64 a0_17, .int .i64 a0_18, .bool a0_19, .int .i64 a0_20, .int .i64 a0_21, .int .i64 a0_22, .int .i64 a0_23, .bool a0_24, .string a0_25, .int .i64 a0_26]] rfl args_ ?_; (with_reducible refine (spec_siHand.calls (w := _) (h := A5.out)).mono ?_); rintro e w12 ⟨rfl, hb⟩; refine ⟨_, rfl, ?_⟩; replace BK197 := am_ (lb_ BK197 hb); replace HB := am_ (below_step (bb1_ HB GE197) hb); (try clear hb); (try clear hb2); (try clear hk); (try clear hi); have hcz13_0 := cz0_ BK197; have hcz13_1 := cz1_ BK197; have hcz13_2 := cz2_ BK197; have hcz13_3 := cz3_ BK197; have hcz13_4 := cz4_ BK197; have hcz13_5 := cz5_ BK197; have hcz13_6 := cz6_ BK197; have hcz13_7 := cz7_ BK197; have hcz13_8 := cz8_ BK197; have hcz13_9 := cz9_ BK197; have hcz13_10 := cz10_ BK197; have hcz13_11 := cz11_ BK197; have hcz13_12 := cz12_ BK197; have hcz13_13 := cz13_ BK197; have hcz13_14 := cz14_ BK197; have hcz13_15 := cz15_ BK197; have hcz13_16 := cz16_ BK197; have hcz13_17 := cz17_ BK197; have hcz13_18 := cz18_ BK197; have hcz13_19 := cz19_ BK197; have hcz13_20 := cz20_ BK197; have hcz13_21 := cz21_ BK197; have hcz13_22 := cz22_ BK197; have hcz13_23 := cz23_ BK197; have hcz13_24 := cz24_ BK197; have hcz13_25 := cz25_ BK197; have hcz13_26 := cz26_ BK197) | (go_at_call 46; (with_reducible refine (spec_siBroken.calls (w := _) (h := A7.out)).mono ?_); rintro e w14 ⟨rfl, hb⟩; replace BK197 := am_ (lb_ BK197 hb); replace HB := am_ (below_step (bb1_ HB GE197) hb); (try clear hb); (try clear hb2); (try clear hk); (try clear hi)))
    go_ret
    exact ⟨ew_, bb1_ HB GE197⟩
   ·replace c6 := Bool.eq_false_iff.mpr c6
    subst c6
    have H1 : (some false) = some r := by rw [if_neg (show ¬ (false = true) by decide)] at H; exact H
    clear H
    have H := H1
    clear H1
    obtain rfl := Option.some.inj H
    go_enter Tryz.func26, Tryz.ntmps26
    go_wp2_with (first | ((with_reducible refine gate_dst (N := 1) rfl ?_); refine bx_ (cs := #[.int .i64 a0_0, .int .i64 a0_1, .int .i64 a0_2, .int .i64 a0_3, .int .i64 a0_4, .bool a0_5, .int .i64 a0_6, .int .i64 a0_7, .int .i64 a0_8, .int .i64 a0_9, .bool a0_10, .string a0_11, .int .i64 a0_12, .bool true, .int .i64 a0_14, .int .i64 a0_15, .int .i64 a0_16, .int .i64 a0_17, .int .i64 a0_18, .bool a0_19, .int .i64 a0_20, .int .i64 a0_21, .int .i64 a0_22, .int .i64 a0_23, .bool a0_24, .string a0_25, .int .i64 a0_26]) (t := 44) ?_; intro gb197 hg w15 hbox hb; have BK197 := am_ (hbox); have GW197 := gz_ hg HB; have GE197 := gz_ hg HB; replace HB := am_ (bt_ HB hb); clear hb hbox hg; have hcz16_0 := cz0_ BK197; have hcz16_1 := cz1_ BK197; have hcz16_2 := cz2_ BK197; have hcz16_3 := cz3_ BK197; have hcz16_4 := cz4_ BK197; have hcz16_5 := cz5_ BK197; have hcz16_6 := cz6_ BK197; have hcz16_7 := cz7_ BK197; have hcz16_8 := cz8_ BK197; have hcz16_9 := cz9_ BK197; have hcz16_10 := cz10_ BK197; have hcz16_11 := cz11_ BK197; have hcz16_12 := cz12_ BK197; have hcz16_13 := cz13_ BK197; have hcz16_14 := cz14_ BK197; have hcz16_15 := cz15_ BK197; have hcz16_16 := cz16_ BK197; have hcz16_17 := cz17_ BK197; have hcz16_18 := cz18_ BK197; have hcz16_19 := cz19_ BK197; have hcz16_20 := cz20_ BK197; have hcz16_21 := cz21_ BK197; have hcz16_22 := cz22_ BK197; have hcz16_23 := cz23_ BK197; have hcz16_24 := cz24_ BK197; have hcz16_25 := cz25_ BK197; have hcz16_26 := cz26_ BK197) | ((with_reducible refine gate_callee (f := 45) rfl ?_); refine goesL_ (some 5) rfl rfl Tryz.func45 (by kernel_rfl) rfl #[.agg #[.int .i64 a0_0, .int .i64 a0_1, .int .i64 a0_2, .int .i64 a0_3, .int .i64 a0_4, .bool a0_5, .int .i64 a0_6, .int .i64 a0_7, .int .i64 a0_8, .int .i64 a0_9, .bool a0_10, .string a0_11, .int .i64 a0_12]] rfl args_ ?_; (with_reducible refine (spec_siHand.calls (w := _) (h := A2.out)).mono ?_); rintro e w17 ⟨rfl, hb⟩; refine ⟨_, rfl, ?_⟩; replace BK197 := am_ (lb_ BK197 hb); replace HB := am_ (below_step (bb1_ HB GE197) hb); (try clear hb); (try clear hb2); (try clear hk); (try clear hi); have hcz18_0 := cz0_ BK197; have hcz18_1 := cz1_ BK197; have hcz18_2 := cz2_ BK197; have hcz18_3 := cz3_ BK197; have hcz18_4 := cz4_ BK197; have hcz18_5 := cz5_ BK197; have hcz18_6 := cz6_ BK197; have hcz18_7 := cz7_ BK197; have hcz18_8 := cz8_ BK197; have hcz18_9 := cz9_ BK197; have hcz18_10 := cz10_ BK197; have hcz18_11 := cz11_ BK197; have hcz18_12 := cz12_ BK197; have hcz18_13 := cz13_ BK197; have hcz18_14 := cz14_ BK197; have hcz18_15 := cz15_ BK197; have hcz18_16 := cz16_ BK197; have hcz18_17 := cz17_ BK197; have hcz18_18 := cz18_ BK197; have hcz18_19 := cz19_ BK197; have hcz18_20 := cz20_ BK197; have hcz18_21 := cz21_ BK197; have hcz18_22 := cz22_ BK197; have hcz18_23 := cz23_ BK197; have hcz18_24 := cz24_ BK197; have hcz18_25 := cz25_ BK197; have hcz18_26 := cz26_ BK197) | ((with_reducible refine gate_callee (f := 45) rfl ?_); refine goesL_ (some 16) rfl rfl Tryz.func45 (by kernel_rfl) rfl #[.agg #[.int .i64 a0_14, .int .i64 a0_15, .int .i64 a0_16, .int .i64 a0_17, .int .i64 a0_18, .bool a0_19, .int .i64 a0_20, .int .i64 a0_21, .int .i64 a0_22, .int .i64 a0_23, .bool a0_24, .string a0_25, .int .i64 a0_26]] rfl args_ ?_; (with_reducible refine (spec_siHand.calls (w := _) (h := A5.out)).mono ?_); rintro e w19 ⟨rfl, hb⟩; refine ⟨_, rfl, ?_⟩; replace BK197 := am_ (lb_ BK197 hb); replace HB := am_ (below_step (bb1_ HB GE197) hb); clear hb))
    go_ret
    exact ⟨ew_, bb1_ HB GE197⟩
  ·replace c4 := Bool.eq_false_iff.mpr c4
   subst c4
   have H1 : (some ((a0_14 == 0 && (a0_15 == 0 && (a0_16 == 0 && (a0_17 == 0 && (a0_18 == 0 && (!a0_19)))))) && ((a0_20 == 0 && (a0_21 == 0)) && ((a0_22 == 0 && (a0_23 == 0 && (!a0_24))) && ((a0_25.toList == ([] : List UInt8) && (a0_26 == 0))))))) = some r := by rw [if_neg (show ¬ (false = true) by decide)] at H; exact H
   clear H
   have H := H1
   clear H1
   obtain rfl := Option.some.inj H
   go_enter Tryz.func26, Tryz.ntmps26
   go_wp2_with (first | ((with_reducible refine gate_dst (N := 1) rfl ?_); refine bx_ (cs := #[.int .i64 a0_0, .int .i64 a0_1, .int .i64 a0_2, .int .i64 a0_3, .int .i64 a0_4, .bool a0_5, .int .i64 a0_6, .int .i64 a0_7, .int .i64 a0_8, .int .i64 a0_9, .bool a0_10, .string a0_11, .int .i64 a0_12, .bool false, .int .i64 a0_14, .int .i64 a0_15, .int .i64 a0_16, .int .i64 a0_17, .int .i64 a0_18, .bool a0_19, .int .i64 a0_20, .int .i64 a0_21, .int .i64 a0_22, .int .i64 a0_23, .bool a0_24, .string a0_25, .int .i64 a0_26]) (t := 44) ?_; intro gb197 hg w20 hbox hb; have BK197 := am_ (hbox); have GW197 := gz_ hg HB; have GE197 := gz_ hg HB; replace HB := am_ (bt_ HB hb); clear hb hbox hg; have hcz21_0 := cz0_ BK197; have hcz21_1 := cz1_ BK197; have hcz21_2 := cz2_ BK197; have hcz21_3 := cz3_ BK197; have hcz21_4 := cz4_ BK197; have hcz21_5 := cz5_ BK197; have hcz21_6 := cz6_ BK197; have hcz21_7 := cz7_ BK197; have hcz21_8 := cz8_ BK197; have hcz21_9 := cz9_ BK197; have hcz21_10 := cz10_ BK197; have hcz21_11 := cz11_ BK197; have hcz21_12 := cz12_ BK197; have hcz21_13 := cz13_ BK197; have hcz21_14 := cz14_ BK197; have hcz21_15 := cz15_ BK197; have hcz21_16 := cz16_ BK197; have hcz21_17 := cz17_ BK197; have hcz21_18 := cz18_ BK197; have hcz21_19 := cz19_ BK197; have hcz21_20 := cz20_ BK197; have hcz21_21 := cz21_ BK197; have hcz21_22 := cz22_ BK197; have hcz21_23 := cz23_ BK197; have hcz21_24 := cz24_ BK197; have hcz21_25 := cz25_ BK197; have hcz21_26 := cz26_ BK197) | ((with_reducible refine gate_callee (f := 45) rfl ?_); refine goesL_ (some 5) rfl rfl Tryz.func45 (by kernel_rfl) rfl #[.agg #[.int .i64 a0_0, .int .i64 a0_1, .int .i64 a0_2, .int .i64 a0_3, .int .i64 a0_4, .bool a0_5, .int .i64 a0_6, .int .i64 a0_7, .int .i64 a0_8, .int .i64 a0_9, .bool a0_10, .string a0_11, .int .i64 a0_12]] rfl args_ ?_; (with_reducible refine (spec_siHand.calls (w := _) (h := A2.out)).mono ?_); rintro e w22 ⟨rfl, hb⟩; refine ⟨_, rfl, ?_⟩; replace BK197 := am_ (lb_ BK197 hb); replace HB := am_ (below_step (bb1_ HB GE197) hb); (try clear hb); (try clear hb2); (try clear hk); (try clear hi); have hcz23_0 := cz0_ BK197; have hcz23_1 := cz1_ BK197; have hcz23_2 := cz2_ BK197; have hcz23_3 := cz3_ BK197; have hcz23_4 := cz4_ BK197; have hcz23_5 := cz5_ BK197; have hcz23_6 := cz6_ BK197; have hcz23_7 := cz7_ BK197; have hcz23_8 := cz8_ BK197; have hcz23_9 := cz9_ BK197; have hcz23_10 := cz10_ BK197; have hcz23_11 := cz11_ BK197; have hcz23_12 := cz12_ BK197; have hcz23_13 := cz13_ BK197; have hcz23_14 := cz14_ BK197; have hcz23_15 := cz15_ BK197; have hcz23_16 := cz16_ BK197; have hcz23_17 := cz17_ BK197; have hcz23_18 := cz18_ BK197; have hcz23_19 := cz19_ BK197; have hcz23_20 := cz20_ BK197; have hcz23_21 := cz21_ BK197; have hcz23_22 := cz22_ BK197; have hcz23_23 := cz23_ BK197; have hcz23_24 := cz24_ BK197; have hcz23_25 := cz25_ BK197; have hcz23_26 := cz26_ BK197))
   go_ret
   exact ⟨ew_, bb1_ HB GE197⟩
 ·replace c3 := Bool.eq_false_iff.mpr c3
  subst c3
  have H1 : (some false) = some r := by rw [if_neg (show ¬ (false = true) by decide)] at H; exact H
  clear H
  have H := H1
  clear H1
  obtain rfl := Option.some.inj H
  go_enter Tryz.func26, Tryz.ntmps26
  go_wp2_with (first | ((with_reducible refine gate_dst (N := 1) rfl ?_); refine bx_ (cs := #[.int .i64 a0_0, .int .i64 a0_1, .int .i64 a0_2, .int .i64 a0_3, .int .i64 a0_4, .bool a0_5, .int .i64 a0_6, .int .i64 a0_7, .int .i64 a0_8, .int .i64 a0_9, .bool a0_10, .string a0_11, .int .i64 a0_12, .bool a0_13, .int .i64 a0_14, .int .i64 a0_15, .int .i64 a0_16, .int .i64 a0_17, .int .i64 a0_18, .bool a0_19, .int .i64 a0_20, .int .i64 a0_21, .int .i64 a0_22, .int .i64 a0_23, .bool a0_24, .string a0_25, .int .i64 a0_26]) (t := 44) ?_; intro gb197 hg w24 hbox hb; have BK197 := am_ (hbox); have GW197 := gz_ hg HB; have GE197 := gz_ hg HB; replace HB := am_ (bt_ HB hb); clear hb hbox hg; have hcz25_0 := cz0_ BK197; have hcz25_1 := cz1_ BK197; have hcz25_2 := cz2_ BK197; have hcz25_3 := cz3_ BK197; have hcz25_4 := cz4_ BK197; have hcz25_5 := cz5_ BK197; have hcz25_6 := cz6_ BK197; have hcz25_7 := cz7_ BK197; have hcz25_8 := cz8_ BK197; have hcz25_9 := cz9_ BK197; have hcz25_10 := cz10_ BK197; have hcz25_11 := cz11_ BK197; have hcz25_12 := cz12_ BK197; have hcz25_13 := cz13_ BK197; have hcz25_14 := cz14_ BK197; have hcz25_15 := cz15_ BK197; have hcz25_16 := cz16_ BK197; have hcz25_17 := cz17_ BK197; have hcz25_18 := cz18_ BK197; have hcz25_19 := cz19_ BK197; have hcz25_20 := cz20_ BK197; have hcz25_21 := cz21_ BK197; have hcz25_22 := cz22_ BK197; have hcz25_23 := cz23_ BK197; have hcz25_24 := cz24_ BK197; have hcz25_25 := cz25_ BK197; have hcz25_26 := cz26_ BK197) | ((with_reducible refine gate_callee (f := 45) rfl ?_); refine goesL_ (some 5) rfl rfl Tryz.func45 (by kernel_rfl) rfl #[.agg #[.int .i64 a0_0, .int .i64 a0_1, .int .i64 a0_2, .int .i64 a0_3, .int .i64 a0_4, .bool a0_5, .int .i64 a0_6, .int .i64 a0_7, .int .i64 a0_8, .int .i64 a0_9, .bool a0_10, .string a0_11, .int .i64 a0_12]] rfl args_ ?_; (with_reducible refine (spec_siHand.calls (w := _) (h := A2.out)).mono ?_); rintro e w26 ⟨rfl, hb⟩; refine ⟨_, rfl, ?_⟩; replace BK197 := am_ (lb_ BK197 hb); replace HB := am_ (below_step (bb1_ HB GE197) hb); clear hb))
  go_ret
  exact ⟨ew_, bb1_ HB GE197⟩

/-! ### laws_toShape: function 47 -/
def laws_toShape.f (a0_0 a0_1 : Int) (a0_2 a0_3 a0_4 : Int) (a0_5 : Bool) : Option (Int × Int × Int × Int × Int × Bool) := some (a0_0, a0_1, a0_2, a0_3, a0_4, a0_5)
set_option maxHeartbeats 8000000 in
set_option maxRecDepth 100000 in
theorem laws_toShape.calls (a0_0 a0_1 : Int) (a0_2 a0_3 a0_4 : Int) (a0_5 : Bool) (r1 r2 : Int) (r3 r4 r5 : Int) (r6 : Bool) (w : World) (h : laws_toShape.f a0_0 a0_1 a0_2 a0_3 a0_4 a0_5 = some (r1, r2, r3, r4, r5, r6)) :
  Calls Tryz.prog 47 #[.agg #[.int .i64 a0_0, .int .i64 a0_1, .int .i64 a0_2, .int .i64 a0_3, .int .i64 a0_4, .bool a0_5]] w fun e w' => e = .returned (.agg #[.int .i64 r1, .int .i64 r2, .int .i64 r3, .int .i64 r4, .int .i64 r5, .bool r6]) ∧ Below w.heap.size w w' := by
 have hu23 := Tryz.underlying23
 have hu37 := Tryz.underlying37
 have HB := am_ (Below.refl w.heap.size w)
 have H : (some (a0_0, a0_1, a0_2, a0_3, a0_4, a0_5)) = some (r1, r2, r3, r4, r5, r6) := h
 clear h
 simp only [Option.some.injEq, Prod.mk.injEq] at H
 obtain ⟨rfl, rfl, rfl, rfl, rfl, rfl⟩ := H
 go_enter Tryz.func47, Tryz.ntmps47
 go_wp2_with (first | ((with_reducible refine gate_dst (N := 1) rfl ?_); refine bx_ (cs := #[.int .i64 a0_0, .int .i64 a0_1, .int .i64 a0_2, .int .i64 a0_3, .int .i64 a0_4, .bool a0_5]) (t := 23) ?_; intro gb207 hg w2 hbox hb; have BK207 := am_ (hbox); have GW207 := gz_ hg HB; have GE207 := gz_ hg HB; replace HB := am_ (bt_ HB hb); clear hb hbox hg) | ((with_reducible refine gate_dst (N := 2) rfl ?_); refine bx_ (cs := #[.int .i64 0, .int .i64 0, .int .i64 0, .int .i64 0, .int .i64 0, .bool false]) (t := 37) ?_; intro gb208 hg w3 hbox hb; have BK208 := am_ (hbox); have GW208 := gy_ hg (bb1_ HB GE207); have GE208 := gy_ hg (bb1_ HB GE207); replace HB := am_ (below_step (bb1_ HB GE207) hb); have NB207_208 := nl_ hg BK207; have NB208_207 := ng_ hg BK207; replace BK207 := am_ (lb_ BK207 hb); clear hb hbox hg) | ((with_reducible refine gate_dst (N := 3) rfl ?_); refine bx_ (cs := #[.int .i64 0, .int .i64 0, .int .i64 0, .int .i64 0, .int .i64 0, .bool false]) (t := 37) ?_; intro gb209 hg w4 hbox hb; have BK209 := am_ (hbox); have GW209 := gy_ hg (bb2_ HB GE207 GE208); have GE209 := gy_ hg (bb2_ HB GE207 GE208); replace HB := am_ (below_step (bb2_ HB GE207 GE208) hb); have NB207_209 := nl_ hg BK207; have NB209_207 := ng_ hg BK207; replace BK207 := am_ (lb_ BK207 hb); have NB208_209 := nl_ hg BK208; have NB209_208 := ng_ hg BK208; replace BK208 := am_ (lb_ BK208 hb); clear hb hbox hg; have hnb5 := NB207_208.out; have hnc5 := NB208_207.out; have hnb6 := NB207_209.out; have hnc6 := NB209_207.out; have hcz7_0 := cz0_ BK207; have hcz7_1 := cz1_ BK207; have hcz7_2 := cz2_ BK207; have hcz7_3 := cz3_ BK207; have hcz7_4 := cz4_ BK207; have hcz7_5 := cz5_ BK207; have hnb8 := NB209_208.out; have hnc8 := NB208_209.out; have hcz9_0 := cz0_ BK209; have hcz9_1 := cz1_ BK209; have hcz9_2 := cz2_ BK209; have hcz9_3 := cz3_ BK209; have hcz9_4 := cz4_ BK209; have hcz9_5 := cz5_ BK209; have hfz9_0 := fz_ BK209 0; have hfz9_1 := fz_ BK209 1; have hfz9_2 := fz_ BK209 2; have hfz9_3 := fz_ BK209 3; have hfz9_4 := fz_ BK209 4; have hfz9_5 := fz_ BK209 5; have hcz10_0 := cz0_ BK208; have hcz10_1 := cz1_ BK208; have hcz10_2 := cz2_ BK208; have hcz10_3 := cz3_ BK208; have hcz10_4 := cz4_ BK208; have hcz10_5 := cz5_ BK208; have hfz10_0 := fz_ BK208 0; have hfz10_1 := fz_ BK208 1; have hfz10_2 := fz_ BK208 2; have hfz10_3 := fz_ BK208 3; have hfz10_4 := fz_ BK208 4; have hfz10_5 := fz_ BK208 5))
 refine bodyPost_ret (results_cell_row rfl _ _ gb208 37 #[.int .i64 a0_0, .int .i64 a0_1, .int .i64 a0_2, .int .i64 a0_3, .int .i64 a0_4, .bool a0_5] (0, 0) _ rfl (by (with_reducible repeat (first | apply lN_ | apply lD_ | apply lA_)); refine blk_put (cs := #[.int .i64 a0_0, .int .i64 a0_1, .int .i64 a0_2, .int .i64 a0_3, .int .i64 a0_4, .bool false]) ?_ 5 _ rfl; (with_reducible repeat (first | apply lN_ | apply lD_ | apply lA_)); refine blk_put (cs := #[.int .i64 a0_0, .int .i64 a0_1, .int .i64 a0_2, .int .i64 a0_3, .int .i64 0, .bool false]) ?_ 4 _ rfl; (with_reducible repeat (first | apply lN_ | apply lD_ | apply lA_)); refine blk_put (cs := #[.int .i64 a0_0, .int .i64 a0_1, .int .i64 a0_2, .int .i64 0, .int .i64 0, .bool false]) ?_ 3 _ rfl; (with_reducible repeat (first | apply lN_ | apply lD_ | apply lA_)); refine blk_put (cs := #[.int .i64 a0_0, .int .i64 a0_1, .int .i64 0, .int .i64 0, .int .i64 0, .bool false]) ?_ 2 _ rfl; (with_reducible repeat (first | apply lN_ | apply lD_ | apply lA_)); refine blk_put (cs := #[.int .i64 a0_0, .int .i64 0, .int .i64 0, .int .i64 0, .int .i64 0, .bool false]) ?_ 1 _ rfl; (with_reducible repeat (first | apply lN_ | apply lD_ | apply lA_)); refine blk_put (cs := #[.int .i64 0, .int .i64 0, .int .i64 0, .int .i64 0, .int .i64 0, .bool false]) ?_ 0 _ rfl; (with_reducible repeat (first | apply lN_ | apply lD_ | apply lA_)); refine blk_far ?_ NB208_209.out _; (with_reducible repeat (first | apply lN_ | apply lD_ | apply lA_)); refine blk_far ?_ NB208_209.out _; (with_reducible repeat (first | apply lN_ | apply lD_ | apply lA_)); refine blk_far ?_ NB208_209.out _; (with_reducible repeat (first | apply lN_ | apply lD_ | apply lA_)); refine blk_far ?_ NB208_209.out _; (with_reducible repeat (first | apply lN_ | apply lD_ | apply lA_)); refine blk_far ?_ NB208_209.out _; (with_reducible repeat (first | apply lN_ | apply lD_ | apply lA_)); refine blk_far ?_ NB208_209.out _; (with_reducible repeat (first | apply lN_ | apply lD_ | apply lA_)); exact BK208.out) Tryz.underlying37 rfl (by kernel_rfl)) rfl ?_
 exact ⟨ew_, bb3_ HB GE207 GE208 GE209⟩

/-! ### laws_toOrient: function 48 -/
def laws_toOrient.f (a0_0 a0_1 : Int) : Option (Int × Int) := some (a0_0, a0_1)
set_option maxHeartbeats 8000000 in
set_option maxRecDepth 100000 in
theorem laws_toOrient.calls (a0_0 a0_1 : Int) (r1 r2 : Int) (w : World) (h : laws_toOrient.f a0_0 a0_1 = some (r1, r2)) :
  Calls Tryz.prog 48 #[.agg #[.int .i64 a0_0, .int .i64 a0_1]] w fun e w' => e = .returned (.agg #[.int .i64 r1, .int .i64 r2]) ∧ Below w.heap.size w w' := by
 have hu25 := Tryz.underlying25
 have hu38 := Tryz.underlying38
 have HB := am_ (Below.refl w.heap.size w)
 have H : (some (a0_0, a0_1)) = some (r1, r2) := h
 clear h
 simp only [Option.some.injEq, Prod.mk.injEq] at H
 obtain ⟨rfl, rfl⟩ := H
 go_enter Tryz.func48, Tryz.ntmps48
 go_wp2_with (first | ((with_reducible refine gate_dst (N := 1) rfl ?_); refine bx_ (cs := #[.int .i64 a0_0, .int .i64 a0_1]) (t := 25) ?_; intro gb210 hg w2 hbox hb; have BK210 := am_ (hbox); have GW210 := gz_ hg HB; have GE210 := gz_ hg HB; replace HB := am_ (bt_ HB hb); clear hb hbox hg) | ((with_reducible refine gate_dst (N := 2) rfl ?_); refine bx_ (cs := #[.int .i64 0, .int .i64 0]) (t := 38) ?_; intro gb211 hg w3 hbox hb; have BK211 := am_ (hbox); have GW211 := gy_ hg (bb1_ HB GE210); have GE211 := gy_ hg (bb1_ HB GE210); replace HB := am_ (below_step (bb1_ HB GE210) hb); have NB210_211 := nl_ hg BK210; have NB211_210 := ng_ hg BK210; replace BK210 := am_ (lb_ BK210 hb); clear hb hbox hg) | ((with_reducible refine gate_dst (N := 3) rfl ?_); refine bx_ (cs := #[.int .i64 0, .int .i64 0]) (t := 38) ?_; intro gb212 hg w4 hbox hb; have BK212 := am_ (hbox); have GW212 := gy_ hg (bb2_ HB GE210 GE211); have GE212 := gy_ hg (bb2_ HB GE210 GE211); replace HB := am_ (below_step (bb2_ HB GE210 GE211) hb); have NB210_212 := nl_ hg BK210; have NB212_210 := ng_ hg BK210; replace BK210 := am_ (lb_ BK210 hb); have NB211_212 := nl_ hg BK211; have NB212_211 := ng_ hg BK211; replace BK211 := am_ (lb_ BK211 hb); clear hb hbox hg; have hnb5 := NB210_211.out; have hnc5 := NB211_210.out; have hnb6 := NB210_212.out; have hnc6 := NB212_210.out; have hcz7_0 := cz0_ BK210; have hcz7_1 := cz1_ BK210; have hnb8 := NB212_211.out; have hnc8 := NB211_212.out; have hcz9_0 := cz0_ BK212; have hcz9_1 := cz1_ BK212; have hfz9_0 := fz_ BK212 0; have hfz9_1 := fz_ BK212 1; have hcz10_0 := cz0_ BK211; have hcz10_1 := cz1_ BK211; have hfz10_0 := fz_ BK211 0; have hfz10_1 := fz_ BK211 1))
 refine bodyPost_ret (results_cell_row rfl _ _ gb211 38 #[.int .i64 a0_0, .int .i64 a0_1] (0, 0) _ rfl (by (with_reducible repeat (first | apply lN_ | apply lD_ | apply lA_)); refine blk_put (cs := #[.int .i64 a0_0, .int .i64 0]) ?_ 1 _ rfl; (with_reducible repeat (first | apply lN_ | apply lD_ | apply lA_)); refine blk_put (cs := #[.int .i64 0, .int .i64 0]) ?_ 0 _ rfl; (with_reducible repeat (first | apply lN_ | apply lD_ | apply lA_)); refine blk_far ?_ NB211_212.out _; (with_reducible repeat (first | apply lN_ | apply lD_ | apply lA_)); refine blk_far ?_ NB211_212.out _; (with_reducible repeat (first | apply lN_ | apply lD_ | apply lA_)); exact BK211.out) Tryz.underlying38 rfl (by kernel_rfl)) rfl ?_
 exact ⟨ew_, bb3_ HB GE210 GE211 GE212⟩

/-! ### laws_toPlace: function 49 -/
def laws_toPlace.f (a0_0 a0_1 : Int) (a0_2 : Bool) : Option (Int × Int × Bool) := some (a0_0, a0_1, a0_2)
set_option maxHeartbeats 8000000 in
set_option maxRecDepth 100000 in
theorem laws_toPlace.calls (a0_0 a0_1 : Int) (a0_2 : Bool) (r1 r2 : Int) (r3 : Bool) (w : World) (h : laws_toPlace.f a0_0 a0_1 a0_2 = some (r1, r2, r3)) :
  Calls Tryz.prog 49 #[.agg #[.int .i64 a0_0, .int .i64 a0_1, .bool a0_2]] w fun e w' => e = .returned (.agg #[.int .i64 r1, .int .i64 r2, .bool r3]) ∧ Below w.heap.size w w' := by
 have hu27 := Tryz.underlying27
 have hu39 := Tryz.underlying39
 have HB := am_ (Below.refl w.heap.size w)
 have H : (some (a0_0, a0_1, a0_2)) = some (r1, r2, r3) := h
 clear h
 simp only [Option.some.injEq, Prod.mk.injEq] at H
 obtain ⟨rfl, rfl, rfl⟩ := H
 go_enter Tryz.func49, Tryz.ntmps49
 go_wp2_with (first | ((with_reducible refine gate_dst (N := 1) rfl ?_); refine bx_ (cs := #[.int .i64 a0_0, .int .i64 a0_1, .bool a0_2]) (t := 27) ?_; intro gb213 hg w2 hbox hb; have BK213 := am_ (hbox); have GW213 := gz_ hg HB; have GE213 := gz_ hg HB; replace HB := am_ (bt_ HB hb); clear hb hbox hg) | ((with_reducible refine gate_dst (N := 2) rfl ?_); refine bx_ (cs := #[.int .i64 0, .int .i64 0, .bool false]) (t := 39) ?_; intro gb214 hg w3 hbox hb; have BK214 := am_ (hbox); have GW214 := gy_ hg (bb1_ HB GE213); have GE214 := gy_ hg (bb1_ HB GE213); replace HB := am_ (below_step (bb1_ HB GE213) hb); have NB213_214 := nl_ hg BK213; have NB214_213 := ng_ hg BK213; replace BK213 := am_ (lb_ BK213 hb); clear hb hbox hg) | ((with_reducible refine gate_dst (N := 3) rfl ?_); refine bx_ (cs := #[.int .i64 0, .int .i64 0, .bool false]) (t := 39) ?_; intro gb215 hg w4 hbox hb; have BK215 := am_ (hbox); have GW215 := gy_ hg (bb2_ HB GE213 GE214); have GE215 := gy_ hg (bb2_ HB GE213 GE214); replace HB := am_ (below_step (bb2_ HB GE213 GE214) hb); have NB213_215 := nl_ hg BK213; have NB215_213 := ng_ hg BK213; replace BK213 := am_ (lb_ BK213 hb); have NB214_215 := nl_ hg BK214; have NB215_214 := ng_ hg BK214; replace BK214 := am_ (lb_ BK214 hb); clear hb hbox hg; have hnb5 := NB213_214.out; have hnc5 := NB214_213.out; have hnb6 := NB213_215.out; have hnc6 := NB215_213.out; have hcz7_0 := cz0_ BK213; have hcz7_1 := cz1_ BK213; have hcz7_2 := cz2_ BK213; have hnb8 := NB215_214.out; have hnc8 := NB214_215.out; have hcz9_0 := cz0_ BK215; have hcz9_1 := cz1_ BK215; have hcz9_2 := cz2_ BK215; have hfz9_0 := fz_ BK215 0; have hfz9_1 := fz_ BK215 1; have hfz9_2 := fz_ BK215 2; have hcz10_0 := cz0_ BK214; have hcz10_1 := cz1_ BK214; have hcz10_2 := cz2_ BK214; have hfz10_0 := fz_ BK214 0; have hfz10_1 := fz_ BK214 1; have hfz10_2 := fz_ BK214 2))
 refine bodyPost_ret (results_cell_row rfl _ _ gb214 39 #[.int .i64 a0_0, .int .i64 a0_1, .bool a0_2] (0, 0) _ rfl (by (with_reducible repeat (first | apply lN_ | apply lD_ | apply lA_)); refine blk_put (cs := #[.int .i64 a0_0, .int .i64 a0_1, .bool false]) ?_ 2 _ rfl; (with_reducible repeat (first | apply lN_ | apply lD_ | apply lA_)); refine blk_put (cs := #[.int .i64 a0_0, .int .i64 0, .bool false]) ?_ 1 _ rfl; (with_reducible repeat (first | apply lN_ | apply lD_ | apply lA_)); refine blk_put (cs := #[.int .i64 0, .int .i64 0, .bool false]) ?_ 0 _ rfl; (with_reducible repeat (first | apply lN_ | apply lD_ | apply lA_)); refine blk_far ?_ NB214_215.out _; (with_reducible repeat (first | apply lN_ | apply lD_ | apply lA_)); refine blk_far ?_ NB214_215.out _; (with_reducible repeat (first | apply lN_ | apply lD_ | apply lA_)); refine blk_far ?_ NB214_215.out _; (with_reducible repeat (first | apply lN_ | apply lD_ | apply lA_)); exact BK214.out) Tryz.underlying39 rfl (by kernel_rfl)) rfl ?_
 exact ⟨ew_, bb3_ HB GE213 GE214 GE215⟩

/-! ### laws_toMove: function 50 -/
def laws_toMove.f (a0_0 : ByteArray) (a0_1 : Int) : Option (ByteArray × Int) := some (a0_0, a0_1)
set_option maxHeartbeats 8000000 in
set_option maxRecDepth 100000 in
theorem laws_toMove.calls (a0_0 : ByteArray) (a0_1 : Int) (r1 : ByteArray) (r2 : Int) (w : World) (h : laws_toMove.f a0_0 a0_1 = some (r1, r2)) :
  Calls Tryz.prog 50 #[.agg #[.string a0_0, .int .i64 a0_1]] w fun e w' => e = .returned (.agg #[.string r1, .int .i64 r2]) ∧ Below w.heap.size w w' := by
 have hu29 := Tryz.underlying29
 have hu40 := Tryz.underlying40
 have HB := am_ (Below.refl w.heap.size w)
 have H : (some (a0_0, a0_1)) = some (r1, r2) := h
 clear h
 simp only [Option.some.injEq, Prod.mk.injEq] at H
 obtain ⟨rfl, rfl⟩ := H
 go_enter Tryz.func50, Tryz.ntmps50
 go_wp2_with (first | ((with_reducible refine gate_dst (N := 1) rfl ?_); refine bx_ (cs := #[.string a0_0, .int .i64 a0_1]) (t := 29) ?_; intro gb216 hg w2 hbox hb; have BK216 := am_ (hbox); have GW216 := gz_ hg HB; have GE216 := gz_ hg HB; replace HB := am_ (bt_ HB hb); clear hb hbox hg) | ((with_reducible refine gate_dst (N := 2) rfl ?_); refine bx_ (cs := #[.string (⟨#[]⟩ : ByteArray), .int .i64 0]) (t := 40) ?_; intro gb217 hg w3 hbox hb; have BK217 := am_ (hbox); have GW217 := gy_ hg (bb1_ HB GE216); have GE217 := gy_ hg (bb1_ HB GE216); replace HB := am_ (below_step (bb1_ HB GE216) hb); have NB216_217 := nl_ hg BK216; have NB217_216 := ng_ hg BK216; replace BK216 := am_ (lb_ BK216 hb); clear hb hbox hg) | ((with_reducible refine gate_dst (N := 3) rfl ?_); refine bx_ (cs := #[.string (⟨#[]⟩ : ByteArray), .int .i64 0]) (t := 40) ?_; intro gb218 hg w4 hbox hb; have n0_ := am_ (lb_ BK216 hb); have n1_ := am_ (blk_below (g := gb217) (o := .cells #[.string (⟨#[]⟩ : ByteArray), .int .i64 0] 40 (0, 0)) (la_ BK217) hb); have n2_ := am_ (below_step (bb2_ HB GE216 GE217) hb); have n3_ := am_ (hbox); have n4_ := gy_ hg (bb2_ HB GE216 GE217); have n5_ := gy_ hg (bb2_ HB GE216 GE217); have n6_ := nl_ hg BK216; have n7_ := ng_ hg BK216; have n8_ := am_ ((by rw [hg]; exact Nat.ne_of_lt (blk_lt (g := gb217) (o := .cells #[.string (⟨#[]⟩ : ByteArray), .int .i64 0] 40 (0, 0)) (la_ BK217)) : gb217 ≠ gb218)); have n9_ := am_ ((by rw [hg]; exact Nat.ne_of_gt (blk_lt (g := gb217) (o := .cells #[.string (⟨#[]⟩ : ByteArray), .int .i64 0] 40 (0, 0)) (la_ BK217)) : gb218 ≠ gb217)); clear BK216; clear BK217; clear HB; have BK216 := n0_; have BK217 := n1_; have HB := n2_; have BK218 := n3_; have GW218 := n4_; have GE218 := n5_; have NB216_218 := n6_; have NB218_216 := n7_; have NB217_218 := n8_; have NB218_217 := n9_; clear n0_ n1_ n2_ n3_ n4_ n5_ n6_ n7_ n8_ n9_; clear hb hbox hg; have hnb5 := NB216_217.out; have hnc5 := NB217_216.out; have hnb6 := NB216_218.out; have hnc6 := NB218_216.out; have hcz7_0 := cz0_ BK216; have hcz7_1 := cz1_ BK216; have hnb8 := NB218_217.out; have hnc8 := NB217_218.out; have hcz9_0 := cz0_ BK218; have hcz9_1 := cz1_ BK218; have hfz9_0 := fz_ BK218 0; have hfz9_1 := fz_ BK218 1; have hcz10_0 := cz0_ BK217; have hcz10_1 := cz1_ BK217; have hfz10_0 := fz_ BK217 0; have hfz10_1 := fz_ BK217 1))
 refine bodyPost_ret (results_cell_row rfl _ _ gb217 40 #[.string a0_0, .int .i64 a0_1] (0, 0) _ rfl (by (with_reducible repeat (first | apply lN_ | apply lD_ | apply lA_)); refine blk_put (cs := #[.string a0_0, .int .i64 0]) ?_ 1 _ rfl; (with_reducible repeat (first | apply lN_ | apply lD_ | apply lA_)); refine blk_put (cs := #[.string (⟨#[]⟩ : ByteArray), .int .i64 0]) ?_ 0 _ rfl; (with_reducible repeat (first | apply lN_ | apply lD_ | apply lA_)); refine blk_far ?_ NB217_218.out _; (with_reducible repeat (first | apply lN_ | apply lD_ | apply lA_)); refine blk_far ?_ NB217_218.out _; (with_reducible repeat (first | apply lN_ | apply lD_ | apply lA_)); exact BK217.out) Tryz.underlying40 rfl (by kernel_rfl)) rfl ?_
 exact ⟨ew_, bb3_ HB GE216 GE217 GE218⟩

/-! ### laws_toHand: function 27 -/
def laws_toHand.f (a0_0 a0_1 : Int) (a0_2 a0_3 a0_4 : Int) (a0_5 : Bool) (a0_6 a0_7 : Int) (a0_8 a0_9 : Int) (a0_10 : Bool) (a0_11 : ByteArray) (a0_12 : Int) : Option (Int × Int × Int × Int × Int × Bool × Int × Int × Int × Int × Bool × ByteArray × Int) := (laws_toShape.f a0_0 a0_1 a0_2 a0_3 a0_4 a0_5).bind fun bt222 => ((laws_toOrient.f a0_6 a0_7).bind fun bt228 => ((laws_toPlace.f a0_8 a0_9 a0_10).bind fun bt230 => ((laws_toMove.f a0_11 a0_12).bind fun bt233 => (some (bt222.1, bt222.2.1, bt222.2.2.1, bt222.2.2.2.1, bt222.2.2.2.2.1, bt222.2.2.2.2.2, bt228.1, bt228.2, bt230.1, bt230.2.1, bt230.2.2, bt233.1, bt233.2)))))
set_option maxHeartbeats 8000000 in
set_option maxRecDepth 100000 in
theorem laws_toHand.calls (a0_0 a0_1 : Int) (a0_2 a0_3 a0_4 : Int) (a0_5 : Bool) (a0_6 a0_7 : Int) (a0_8 a0_9 : Int) (a0_10 : Bool) (a0_11 : ByteArray) (a0_12 r1 : Int) (r2 r3 : Int) (r4 r5 : Int) (r6 : Bool) (r7 r8 : Int) (r9 r10 : Int) (r11 : Bool) (r12 : ByteArray) (r13 : Int) (w : World) (h : laws_toHand.f a0_0 a0_1 a0_2 a0_3 a0_4 a0_5 a0_6 a0_7 a0_8 a0_9 a0_10 a0_11 a0_12 = some (r1, r2, r3, r4, r5, r6, r7, r8, r9, r10, r11, r12, r13)) :
  Calls Tryz.prog 27 #[.agg #[.int .i64 a0_0, .int .i64 a0_1, .int .i64 a0_2, .int .i64 a0_3, .int .i64 a0_4, .bool a0_5, .int .i64 a0_6, .int .i64 a0_7, .int .i64 a0_8, .int .i64 a0_9, .bool a0_10, .string a0_11, .int .i64 a0_12]] w fun e w' => e = .returned (.agg #[.int .i64 r1, .int .i64 r2, .int .i64 r3, .int .i64 r4, .int .i64 r5, .bool r6, .int .i64 r7, .int .i64 r8, .int .i64 r9, .int .i64 r10, .bool r11, .string r12, .int .i64 r13]) ∧ Below w.heap.size w w' := by
 have hu31 := Tryz.underlying31
 have hu42 := Tryz.underlying42
 have hu23 := Tryz.underlying23
 have hu37 := Tryz.underlying37
 have hu25 := Tryz.underlying25
 have hu38 := Tryz.underlying38
 have hu27 := Tryz.underlying27
 have hu39 := Tryz.underlying39
 have hu29 := Tryz.underlying29
 have hu40 := Tryz.underlying40
 have HB := am_ (Below.refl w.heap.size w)
 have H : ((laws_toShape.f a0_0 a0_1 a0_2 a0_3 a0_4 a0_5).bind fun bt222 => ((laws_toOrient.f a0_6 a0_7).bind fun bt228 => ((laws_toPlace.f a0_8 a0_9 a0_10).bind fun bt230 => ((laws_toMove.f a0_11 a0_12).bind fun bt233 => (some (bt222.1, bt222.2.1, bt222.2.2.1, bt222.2.2.2.1, bt222.2.2.2.2.1, bt222.2.2.2.2.2, bt228.1, bt228.2, bt230.1, bt230.2.1, bt230.2.2, bt233.1, bt233.2)))))) = some (r1, r2, r3, r4, r5, r6, r7, r8, r9, r10, r11, r12, r13) := h
 clear h
 replace H := Option.bind_eq_some_iff.mp H
 obtain ⟨⟨t222, t223, t224, t225, t226, t227⟩, A20, H⟩ := H
 try dsimp only at H
 have A2 := Aside0.mk A20
 clear A20
 replace H := Option.bind_eq_some_iff.mp H
 obtain ⟨⟨t228, t229⟩, A30, H⟩ := H
 try dsimp only at H
 have A3 := Aside0.mk A30
 clear A30
 replace H := Option.bind_eq_some_iff.mp H
 obtain ⟨⟨t230, t231, t232⟩, A40, H⟩ := H
 try dsimp only at H
 have A4 := Aside0.mk A40
 clear A40
 replace H := Option.bind_eq_some_iff.mp H
 obtain ⟨⟨t233, t234⟩, A50, H⟩ := H
 try dsimp only at H
 have A5 := Aside0.mk A50
 clear A50
 simp only [Option.some.injEq, Prod.mk.injEq] at H
 obtain ⟨rfl, rfl, rfl, rfl, rfl, rfl, rfl, rfl, rfl, rfl, rfl, rfl, rfl⟩ := H
 go_enter Tryz.func27, Tryz.ntmps27
 go_wp2_with (first | ((with_reducible refine gate_dst (N := 1) rfl ?_); refine bx_ (cs := #[.int .i64 a0_0, .int .i64 a0_1, .int .i64 a0_2, .int .i64 a0_3, .int .i64 a0_4, .bool a0_5, .int .i64 a0_6, .int .i64 a0_7, .int .i64 a0_8, .int .i64 a0_9, .bool a0_10, .string a0_11, .int .i64 a0_12]) (t := 31) ?_; intro gb219 hg w6 hbox hb; have BK219 := am_ (hbox); have GW219 := gz_ hg HB; have GE219 := gz_ hg HB; replace HB := am_ (bt_ HB hb); clear hb hbox hg) | ((with_reducible refine gate_dst (N := 2) rfl ?_); refine bx_ (cs := #[.int .i64 0, .int .i64 0, .int .i64 0, .int .i64 0, .int .i64 0, .bool false, .int .i64 0, .int .i64 0, .int .i64 0, .int .i64 0, .bool false, .string (⟨#[]⟩ : ByteArray), .int .i64 0]) (t := 42) ?_; intro gb220 hg w7 hbox hb; have BK220 := am_ (hbox); have GW220 := gy_ hg (bb1_ HB GE219); have GE220 := gy_ hg (bb1_ HB GE219); replace HB := am_ (below_step (bb1_ HB GE219) hb); have NB219_220 := nl_ hg BK219; have NB220_219 := ng_ hg BK219; replace BK219 := am_ (lb_ BK219 hb); clear hb hbox hg) | ((with_reducible refine gate_dst (N := 3) rfl ?_); refine bx_ (cs := #[.int .i64 0, .int .i64 0, .int .i64 0, .int .i64 0, .int .i64 0, .bool false, .int .i64 0, .int .i64 0, .int .i64 0, .int .i64 0, .bool false, .string (⟨#[]⟩ : ByteArray), .int .i64 0]) (t := 42) ?_; intro gb221 hg w8 hbox hb; have n0_ := am_ (lb_ BK219 hb); have n1_ := am_ (blk_below (g := gb220) (o := .cells #[.int .i64 0, .int .i64 0, .int .i64 0, .int .i64 0, .int .i64 0, .bool false, .int .i64 0, .int .i64 0, .int .i64 0, .int .i64 0, .bool false, .string (⟨#[]⟩ : ByteArray), .int .i64 0] 42 (0, 0)) (la_ BK220) hb); have n2_ := am_ (below_step (bb2_ HB GE219 GE220) hb); have n3_ := am_ (hbox); have n4_ := gy_ hg (bb2_ HB GE219 GE220); have n5_ := gy_ hg (bb2_ HB GE219 GE220); have n6_ := nl_ hg BK219; have n7_ := ng_ hg BK219; have n8_ := am_ ((by rw [hg]; exact Nat.ne_of_lt (blk_lt (g := gb220) (o := .cells #[.int .i64 0, .int .i64 0, .int .i64 0, .int .i64 0, .int .i64 0, .bool false, .int .i64 0, .int .i64 0, .int .i64 0, .int .i64 0, .bool false, .string (⟨#[]⟩ : ByteArray), .int .i64 0] 42 (0, 0)) (la_ BK220)) : gb220 ≠ gb221)); have n9_ := am_ ((by rw [hg]; exact Nat.ne_of_gt (blk_lt (g := gb220) (o := .cells #[.int .i64 0, .int .i64 0, .int .i64 0, .int .i64 0, .int .i64 0, .bool false, .int .i64 0, .int .i64 0, .int .i64 0, .int .i64 0, .bool false, .string (⟨#[]⟩ : ByteArray), .int .i64 0] 42 (0, 0)) (la_ BK220)) : gb221 ≠ gb220)); clear BK219; clear BK220; clear HB; have BK219 := n0_; have BK220 := n1_; have HB := n2_; have BK221 := n3_; have GW221 := n4_; have GE221 := n5_; have NB219_221 := n6_; have NB221_219 := n7_; have NB220_221 := n8_; have NB221_220 := n9_; clear n0_ n1_ n2_ n3_ n4_ n5_ n6_ n7_ n8_ n9_; clear hb hbox hg; have hnb9 := NB219_220.out; have hnc9 := NB220_219.out; have hnb10 := NB219_221.out; have hnc10 := NB221_219.out; have hcz11_0 := cz0_ BK219; have hcz11_1 := cz1_ BK219; have hcz11_2 := cz2_ BK219; have hcz11_3 := cz3_ BK219; have hcz11_4 := cz4_ BK219; have hcz11_5 := cz5_ BK219; have hcz11_6 := cz6_ BK219; have hcz11_7 := cz7_ BK219; have hcz11_8 := cz8_ BK219; have hcz11_9 := cz9_ BK219; have hcz11_10 := cz10_ BK219; have hcz11_11 := cz11_ BK219; have hcz11_12 := cz12_ BK219) | ((with_reducible refine gate_callee (f := 47) rfl ?_); refine goesL_ (some 6) rfl rfl Tryz.func47 (by kernel_rfl) rfl #[.agg #[.int .i64 a0_0, .int .i64 a0_1, .int .i64 a0_2, .int .i64 a0_3, .int .i64 a0_4, .bool a0_5]] rfl args_ ?_; (with_reducible refine (laws_toShape.calls (w := _) (h := A2.out)).mono ?_); rintro e w12 ⟨rfl, hb⟩; refine ⟨_, rfl, ?_⟩; replace BK219 := am_ (lb_ BK219 hb); replace BK220 := am_ (blk_below (g := gb220) (o := .cells #[.int .i64 0, .int .i64 0, .int .i64 0, .int .i64 0, .int .i64 0, .bool false, .int .i64 0, .int .i64 0, .int .i64 0, .int .i64 0, .bool false, .string (⟨#[]⟩ : ByteArray), .int .i64 0] 42 (0, 0)) (la_ BK220) hb); replace BK221 := am_ (blk_below (g := gb221) (o := .cells #[.int .i64 0, .int .i64 0, .int .i64 0, .int .i64 0, .int .i64 0, .bool false, .int .i64 0, .int .i64 0, .int .i64 0, .int .i64 0, .bool false, .string (⟨#[]⟩ : ByteArray), .int .i64 0] 42 (0, 0)) (la_ BK221) hb); replace HB := am_ (below_step (bb3_ HB GE219 GE220 GE221) hb); (try clear hb); (try clear hb2); (try clear hk); (try clear hi); have hnb13 := NB221_220.out; have hnc13 := NB220_221.out; have hcz14_0 := cz0_ BK221; have hcz14_1 := cz1_ BK221; have hcz14_2 := cz2_ BK221; have hcz14_3 := cz3_ BK221; have hcz14_4 := cz4_ BK221; have hcz14_5 := cz5_ BK221; have hcz14_6 := cz6_ BK221; have hcz14_7 := cz7_ BK221; have hcz14_8 := cz8_ BK221; have hcz14_9 := cz9_ BK221; have hcz14_10 := cz10_ BK221; have hcz14_11 := cz11_ BK221; have hcz14_12 := cz12_ BK221; have hfz14_0 := fz_ BK221 0; have hfz14_1 := fz_ BK221 1; have hfz14_2 := fz_ BK221 2; have hfz14_3 := fz_ BK221 3; have hfz14_4 := fz_ BK221 4; have hfz14_5 := fz_ BK221 5; have hfz14_6 := fz_ BK221 6; have hfz14_7 := fz_ BK221 7; have hfz14_8 := fz_ BK221 8; have hfz14_9 := fz_ BK221 9; have hfz14_10 := fz_ BK221 10; have hfz14_11 := fz_ BK221 11; have hfz14_12 := fz_ BK221 12; have hcz15_0 := cz0_ BK219; have hcz15_1 := cz1_ BK219; have hcz15_2 := cz2_ BK219; have hcz15_3 := cz3_ BK219; have hcz15_4 := cz4_ BK219; have hcz15_5 := cz5_ BK219; have hcz15_6 := cz6_ BK219; have hcz15_7 := cz7_ BK219; have hcz15_8 := cz8_ BK219; have hcz15_9 := cz9_ BK219; have hcz15_10 := cz10_ BK219; have hcz15_11 := cz11_ BK219; have hcz15_12 := cz12_ BK219) | ((with_reducible refine gate_callee (f := 48) rfl ?_); refine goesL_ (some 10) rfl rfl Tryz.func48 (by kernel_rfl) rfl #[.agg #[.int .i64 a0_6, .int .i64 a0_7]] rfl args_ ?_; (with_reducible refine (laws_toOrient.calls a0_6 a0_7 t228 t229 _ A3.out).mono ?_); rintro e w16 ⟨rfl, hb⟩; refine ⟨_, rfl, ?_⟩; have n0_ := am_ (blk_below (g := gb219) (o := .cells #[.int .i64 a0_0, .int .i64 a0_1, .int .i64 a0_2, .int .i64 a0_3, .int .i64 a0_4, .bool a0_5, .int .i64 a0_6, .int .i64 a0_7, .int .i64 a0_8, .int .i64 a0_9, .bool a0_10, .string a0_11, .int .i64 a0_12] 31 (0, 0)) (by (with_reducible repeat (first | apply lN_ | apply lD_ | apply lA_)); refine blk_far ?_ NB219_221.out _; (with_reducible repeat (first | apply lN_ | apply lD_ | apply lA_)); refine blk_far ?_ NB219_221.out _; (with_reducible repeat (first | apply lN_ | apply lD_ | apply lA_)); refine blk_far ?_ NB219_221.out _; (with_reducible repeat (first | apply lN_ | apply lD_ | apply lA_)); refine blk_far ?_ NB219_221.out _; (with_reducible repeat (first | apply lN_ | apply lD_ | apply lA_)); refine blk_far ?_ NB219_221.out _; (with_reducible repeat (first | apply lN_ | apply lD_ | apply lA_)); refine blk_far ?_ NB219_221.out _; (with_reducible repeat (first | apply lN_ | apply lD_ | apply lA_)); exact BK219.out) hb); have n1_ := am_ (blk_below (g := gb220) (o := .cells #[.int .i64 0, .int .i64 0, .int .i64 0, .int .i64 0, .int .i64 0, .bool false, .int .i64 0, .int .i64 0, .int .i64 0, .int .i64 0, .bool false, .string (⟨#[]⟩ : ByteArray), .int .i64 0] 42 (0, 0)) (by (with_reducible repeat (first | apply lN_ | apply lD_ | apply lA_)); refine blk_far ?_ NB220_221.out _; (with_reducible repeat (first | apply lN_ | apply lD_ | apply lA_)); refine blk_far ?_ NB220_221.out _; (with_reducible repeat (first | apply lN_ | apply lD_ | apply lA_)); refine blk_far ?_ NB220_221.out _; (with_reducible repeat (first | apply lN_ | apply lD_ | apply lA_)); refine blk_far ?_ NB220_221.out _; (with_reducible repeat (first | apply lN_ | apply lD_ | apply lA_)); refine blk_far ?_ NB220_221.out _; (with_reducible repeat (first | apply lN_ | apply lD_ | apply lA_)); refine blk_far ?_ NB220_221.out _; (with_reducible repeat (first | apply lN_ | apply lD_ | apply lA_)); exact BK220.out) hb); have n2_ := am_ (blk_below (g := gb221) (o := .cells #[.int .i64 t222, .int .i64 t223, .int .i64 t224, .int .i64 t225, .int .i64 t226, .bool t227, .int .i64 0, .int .i64 0, .int .i64 0, .int .i64 0, .bool false, .string (⟨#[]⟩ : ByteArray), .int .i64 0] 42 (0, 0)) (by (with_reducible repeat (first | apply lN_ | apply lD_ | apply lA_)); refine blk_put (cs := #[.int .i64 t222, .int .i64 t223, .int .i64 t224, .int .i64 t225, .int .i64 t226, .bool false, .int .i64 0, .int .i64 0, .int .i64 0, .int .i64 0, .bool false, .string (⟨#[]⟩ : ByteArray), .int .i64 0]) ?_ 5 _ rfl; (with_reducible repeat (first | apply lN_ | apply lD_ | apply lA_)); refine blk_put (cs := #[.int .i64 t222, .int .i64 t223, .int .i64 t224, .int .i64 t225, .int .i64 0, .bool false, .int .i64 0, .int .i64 0, .int .i64 0, .int .i64 0, .bool false, .string (⟨#[]⟩ : ByteArray), .int .i64 0]) ?_ 4 _ rfl; (with_reducible repeat (first | apply lN_ | apply lD_ | apply lA_)); refine blk_put (cs := #[.int .i64 t222, .int .i64 t223, .int .i64 t224, .int .i64 0, .int .i64 0, .bool false, .int .i64 0, .int .i64 0, .int .i64 0, .int .i64 0, .bool false, .string (⟨#[]⟩ : ByteArray), .int .i64 0]) ?_ 3 _ rfl; (with_reducible repeat (first | apply lN_ | apply lD_ | apply lA_)); refine blk_put (cs := #[.int .i64 t222, .int .i64 t223, .int .i64 0, .int .i64 0, .int .i64 0, .bool false, .int .i64 0, .int .i64 0, .int .i64 0, .int .i64 0, .bool false, .string (⟨#[]⟩ : ByteArray), .int .i64 0]) ?_ 2 _ rfl; (with_reducible repeat (first | apply lN_ | apply lD_ | apply lA_)); refine blk_put (cs := #[.int .i64 t222, .int .i64 0, .int .i64 0, .int .i64 0, .int .i64 0, .bool false, .int .i64 0, .int .i64 0, .int .i64 0, .int .i64 0, .bool false, .string (⟨#[]⟩ : ByteArray), .int .i64 0]) ?_ 1 _ rfl; (with_reducible repeat (first | apply lN_ | apply lD_ | apply lA_)); refine blk_put (cs := #[.int .i64 0, .int .i64 0, .int .i64 0, .int .i64 0, .int .i64 0, .bool false, .int .i64 0, .int .i64 0, .int .i64 0, .int .i64 0, .bool false, .string (⟨#[]⟩ : ByteArray), .int .i64 0]) ?_ 0 _ rfl; (with_reducible repeat (first | apply lN_ | apply lD_ | apply lA_)); exact BK221.out) hb); have n3_ := am_ (below_step (bb3_ HB GE219 GE220 GE221) hb); clear BK219; clear BK220; clear BK221; clear HB; have BK219 := n0_; have BK220 := n1_; have BK221 := n2_; have HB := n3_; clear n0_ n1_ n2_ n3_; (try clear hb); (try clear hb2); (try clear hk); (try clear hi); have hcz17_0 := cz0_ BK221; have hcz17_1 := cz1_ BK221; have hcz17_2 := cz2_ BK221; have hcz17_3 := cz3_ BK221; have hcz17_4 := cz4_ BK221; have hcz17_5 := cz5_ BK221; have hcz17_6 := cz6_ BK221; have hcz17_7 := cz7_ BK221; have hcz17_8 := cz8_ BK221; have hcz17_9 := cz9_ BK221; have hcz17_10 := cz10_ BK221; have hcz17_11 := cz11_ BK221; have hcz17_12 := cz12_ BK221; have hfz17_0 := fz_ BK221 0; have hfz17_1 := fz_ BK221 1; have hfz17_2 := fz_ BK221 2; have hfz17_3 := fz_ BK221 3; have hfz17_4 := fz_ BK221 4; have hfz17_5 := fz_ BK221 5; have hfz17_6 := fz_ BK221 6; have hfz17_7 := fz_ BK221 7; have hfz17_8 := fz_ BK221 8; have hfz17_9 := fz_ BK221 9; have hfz17_10 := fz_ BK221 10; have hfz17_11 := fz_ BK221 11; have hfz17_12 := fz_ BK221 12; have hcz18_0 := cz0_ BK219; have hcz18_1 := cz1_ BK219; have hcz18_2 := cz2_ BK219; have hcz18_3 := cz3_ BK219; have hcz18_4 := cz4_ BK219; have hcz18_5 := cz5_ BK219; have hcz18_6 := cz6_ BK219; have hcz18_7 := cz7_ BK219; have hcz18_8 := cz8_ BK219; have hcz18_9 := cz9_ BK219; have hcz18_10 := cz10_ BK219; have hcz18_11 := cz11_ BK219; have hcz18_12 := cz12_ BK219) | ((with_reducible refine gate_callee (f := 49) rfl ?_); refine goesL_ (some 14) rfl rfl Tryz.func49 (by kernel_rfl) rfl #[.agg #[.int .i64 a0_8, .int .i64 a0_9, .bool a0_10]] rfl args_ ?_; (with_reducible refine (laws_toPlace.calls (w := _) (h := A4.out)).mono ?_); rintro e w19 ⟨rfl, hb⟩; refine ⟨_, rfl, ?_⟩; have n0_ := am_ (blk_below (g := gb219) (o := .cells #[.int .i64 a0_0, .int .i64 a0_1, .int .i64 a0_2, .int .i64 a0_3, .int .i64 a0_4, .bool a0_5, .int .i64 a0_6, .int .i64 a0_7, .int .i64 a0_8, .int .i64 a0_9, .bool a0_10, .string a0_11, .int .i64 a0_12] 31 (0, 0)) (by (with_reducible repeat (first | apply lN_ | apply lD_ | apply lA_)); refine blk_far ?_ NB219_221.out _; (with_reducible repeat (first | apply lN_ | apply lD_ | apply lA_)); refine blk_far ?_ NB219_221.out _; (with_reducible repeat (first | apply lN_ | apply lD_ | apply lA_)); exact BK219.out) hb); have n1_ := am_ (blk_below (g := gb220) (o := .cells #[.int .i64 0, .int .i64 0, .int .i64 0, .int .i64 0, .int .i64 0, .bool false, .int .i64 0, .int .i64 0, .int .i64 0, .int .i64 0, .bool false, .string (⟨#[]⟩ : ByteArray), .int .i64 0] 42 (0, 0)) (by (with_reducible repeat (first | apply lN_ | apply lD_ | apply lA_)); refine blk_far ?_ NB220_221.out _; (with_reducible repeat (first | apply lN_ | apply lD_ | apply lA_)); refine blk_far ?_ NB220_221.out _; (with_reducible repeat (first | apply lN_ | apply lD_ | apply lA_)); exact BK220.out) hb); have n2_ := am_ (blk_below (g := gb221) (o := .cells #[.int .i64 t222, .int .i64 t223, .int .i64 t224, .int .i64 t225, .int .i64 t226, .bool t227, .int .i64 t228, .int .i64 t229, .int .i64 0, .int .i64 0, .bool false, .string (⟨#[]⟩ : ByteArray), .int .i64 0] 42 (0, 0)) (by (with_reducible repeat (first | apply lN_ | apply lD_ | apply lA_)); refine blk_put (cs := #[.int .i64 t222, .int .i64 t223, .int .i64 t224, .int .i64 t225, .int .i64 t226, .bool t227, .int .i64 t228, .int .i64 0, .int .i64 0, .int .i64 0, .bool false, .string (⟨#[]⟩ : ByteArray), .int .i64 0]) ?_ 7 _ rfl; (with_reducible repeat (first | apply lN_ | apply lD_ | apply lA_)); refine blk_put (cs := #[.int .i64 t222, .int .i64 t223, .int .i64 t224, .int .i64 t225, .int .i64 t226, .bool t227, .int .i64 0, .int .i64 0, .int .i64 0, .int .i64 0, .bool false, .string (⟨#[]⟩ : ByteArray), .int .i64 0]) ?_ 6 _ rfl; (with_reducible repeat (first | apply lN_ | apply lD_ | apply lA_)); exact BK221.out) hb); have n3_ := am_ (below_step (bb3_ HB GE219 GE220 GE221) hb); clear BK219; clear BK220; clear BK221; clear HB; have BK219 := n0_; have BK220 := n1_; have BK221 := n2_; have HB := n3_; clear n0_ n1_ n2_ n3_; (try clear hb); (try clear hb2); (try clear hk); (try clear hi); have hcz20_0 := cz0_ BK221; have hcz20_1 := cz1_ BK221; have hcz20_2 := cz2_ BK221; have hcz20_3 := cz3_ BK221; have hcz20_4 := cz4_ BK221; have hcz20_5 := cz5_ BK221; have hcz20_6 := cz6_ BK221; have hcz20_7 := cz7_ BK221; have hcz20_8 := cz8_ BK221; have hcz20_9 := cz9_ BK221; have hcz20_10 := cz10_ BK221; have hcz20_11 := cz11_ BK221; have hcz20_12 := cz12_ BK221; have hfz20_0 := fz_ BK221 0; have hfz20_1 := fz_ BK221 1; have hfz20_2 := fz_ BK221 2; have hfz20_3 := fz_ BK221 3; have hfz20_4 := fz_ BK221 4; have hfz20_5 := fz_ BK221 5; have hfz20_6 := fz_ BK221 6; have hfz20_7 := fz_ BK221 7; have hfz20_8 := fz_ BK221 8; have hfz20_9 := fz_ BK221 9; have hfz20_10 := fz_ BK221 10; have hfz20_11 := fz_ BK221 11; have hfz20_12 := fz_ BK221 12; have hcz21_0 := cz0_ BK219; have hcz21_1 := cz1_ BK219; have hcz21_2 := cz2_ BK219; have hcz21_3 := cz3_ BK219; have hcz21_4 := cz4_ BK219; have hcz21_5 := cz5_ BK219; have hcz21_6 := cz6_ BK219; have hcz21_7 := cz7_ BK219; have hcz21_8 := cz8_ BK219; have hcz21_9 := cz9_ BK219; have hcz21_10 := cz10_ BK219; have hcz21_11 := cz11_ BK219; have hcz21_12 := cz12_ BK219) | ((with_reducible refine gate_callee (f := 50) rfl ?_); refine goesL_ (some 18) rfl rfl Tryz.func50 (by kernel_rfl) rfl #[.agg #[.string a0_11, .int .i64 a0_12]] rfl args_ ?_; (with_reducible refine (laws_toMove.calls a0_11 a0_12 t233 t234 _ A5.out).mono ?_); rintro e w22 ⟨rfl, hb⟩; refine ⟨_, rfl, ?_⟩; have n0_ := am_ (blk_below (g := gb219) (o := .cells #[.int .i64 a0_0, .int .i64 a0_1, .int .i64 a0_2, .int .i64 a0_3, .int .i64 a0_4, .bool a0_5, .int .i64 a0_6, .int .i64 a0_7, .int .i64 a0_8, .int .i64 a0_9, .bool a0_10, .string a0_11, .int .i64 a0_12] 31 (0, 0)) (by (with_reducible repeat (first | apply lN_ | apply lD_ | apply lA_)); refine blk_far ?_ NB219_221.out _; (with_reducible repeat (first | apply lN_ | apply lD_ | apply lA_)); refine blk_far ?_ NB219_221.out _; (with_reducible repeat (first | apply lN_ | apply lD_ | apply lA_)); refine blk_far ?_ NB219_221.out _; (with_reducible repeat (first | apply lN_ | apply lD_ | apply lA_)); exact BK219.out) hb); have n1_ := am_ (blk_below (g := gb220) (o := .cells #[.int .i64 0, .int .i64 0, .int .i64 0, .int .i64 0, .int .i64 0, .bool false, .int .i64 0, .int .i64 0, .int .i64 0, .int .i64 0, .bool false, .string (⟨#[]⟩ : ByteArray), .int .i64 0] 42 (0, 0)) (by (with_reducible repeat (first | apply lN_ | apply lD_ | apply lA_)); refine blk_far ?_ NB220_221.out _; (with_reducible repeat (first | apply lN_ | apply lD_ | apply lA_)); refine blk_far ?_ NB220_221.out _; (with_reducible repeat (first | apply lN_ | apply lD_ | apply lA_)); refine blk_far ?_ NB220_221.out _; (with_reducible repeat (first | apply lN_ | apply lD_ | apply lA_)); exact BK220.out) hb); have n2_ := am_ (blk_below (g := gb221) (o := .cells #[.int .i64 t222, .int .i64 t223, .int .i64 t224, .int .i64 t225, .int .i64 t226, .bool t227, .int .i64 t228, .int .i64 t229, .int .i64 t230, .int .i64 t231, .bool t232, .string (⟨#[]⟩ : ByteArray), .int .i64 0] 42 (0, 0)) (by (with_reducible repeat (first | apply lN_ | apply lD_ | apply lA_)); refine blk_put (cs := #[.int .i64 t222, .int .i64 t223, .int .i64 t224, .int .i64 t225, .int .i64 t226, .bool t227, .int .i64 t228, .int .i64 t229, .int .i64 t230, .int .i64 t231, .bool false, .string (⟨#[]⟩ : ByteArray), .int .i64 0]) ?_ 10 _ rfl; (with_reducible repeat (first | apply lN_ | apply lD_ | apply lA_)); refine blk_put (cs := #[.int .i64 t222, .int .i64 t223, .int .i64 t224, .int .i64 t225, .int .i64 t226, .bool t227, .int .i64 t228, .int .i64 t229, .int .i64 t230, .int .i64 0, .bool false, .string (⟨#[]⟩ : ByteArray), .int .i64 0]) ?_ 9 _ rfl; (with_reducible repeat (first | apply lN_ | apply lD_ | apply lA_)); refine blk_put (cs := #[.int .i64 t222, .int .i64 t223, .int .i64 t224, .int .i64 t225, .int .i64 t226, .bool t227, .int .i64 t228, .int .i64 t229, .int .i64 0, .int .i64 0, .bool false, .string (⟨#[]⟩ : ByteArray), .int .i64 0]) ?_ 8 _ rfl; (with_reducible repeat (first | apply lN_ | apply lD_ | apply lA_)); exact BK221.out) hb); have n3_ := am_ (below_step (bb3_ HB GE219 GE220 GE221) hb); clear BK219; clear BK220; clear BK221; clear HB; have BK219 := n0_; have BK220 := n1_; have BK221 := n2_; have HB := n3_; clear n0_ n1_ n2_ n3_; (try clear hb); (try clear hb2); (try clear hk); (try clear hi); have hcz23_0 := cz0_ BK221; have hcz23_1 := cz1_ BK221; have hcz23_2 := cz2_ BK221; have hcz23_3 := cz3_ BK221; have hcz23_4 := cz4_ BK221; have hcz23_5 := cz5_ BK221; have hcz23_6 := cz6_ BK221; have hcz23_7 := cz7_ BK221; have hcz23_8 := cz8_ BK221; have hcz23_9 := cz9_ BK221; have hcz23_10 := cz10_ BK221; have hcz23_11 := cz11_ BK221; have hcz23_12 := cz12_ BK221; have hfz23_0 := fz_ BK221 0; have hfz23_1 := fz_ BK221 1; have hfz23_2 := fz_ BK221 2; have hfz23_3 := fz_ BK221 3; have hfz23_4 := fz_ BK221 4; have hfz23_5 := fz_ BK221 5; have hfz23_6 := fz_ BK221 6; have hfz23_7 := fz_ BK221 7; have hfz23_8 := fz_ BK221 8; have hfz23_9 := fz_ BK221 9; have hfz23_10 := fz_ BK221 10; have hfz23_11 := fz_ BK221 11; have hfz23_12 := fz_ BK221 12; have hcz24_0 := cz0_ BK220; have hcz24_1 := cz1_ BK220; have hcz24_2 := cz2_ BK220; have hcz24_3 := cz3_ BK220; have hcz24_4 := cz4_ BK220; have hcz24_5 := cz5_ BK220; have hcz24_6 := cz6_ BK220; have hcz24_7 := cz7_ BK220; have hcz24_8 := cz8_ BK220; have hcz24_9 := cz9_ BK220; have hcz24_10 := cz10_ BK220; have hcz24_11 := cz11_ BK220; have hcz24_12 := cz12_ BK220; have hfz24_0 := fz_ BK220 0; have hfz24_1 := fz_ BK220 1; have hfz24_2 := fz_ BK220 2; have hfz24_3 := fz_ BK220 3; have hfz24_4 := fz_ BK220 4; have hfz24_5 := fz_ BK220 5; have hfz24_6 := fz_ BK220 6; have hfz24_7 := fz_ BK220 7; have hfz24_8 := fz_ BK220 8; have hfz24_9 := fz_ BK220 9; have hfz24_10 := fz_ BK220 10; have hfz24_11 := fz_ BK220 11; have hfz24_12 := fz_ BK220 12))
 refine bodyPost_ret (results_cell_row rfl _ _ gb220 42 #[.int .i64 t222, .int .i64 t223, .int .i64 t224, .int .i64 t225, .int .i64 t226, .bool t227, .int .i64 t228, .int .i64 t229, .int .i64 t230, .int .i64 t231, .bool t232, .string t233, .int .i64 t234] (0, 0) _ rfl (by (with_reducible repeat (first | apply lN_ | apply lD_ | apply lA_)); refine blk_put (cs := #[.int .i64 t222, .int .i64 t223, .int .i64 t224, .int .i64 t225, .int .i64 t226, .bool t227, .int .i64 t228, .int .i64 t229, .int .i64 t230, .int .i64 t231, .bool t232, .string t233, .int .i64 0]) ?_ 12 _ rfl; (with_reducible repeat (first | apply lN_ | apply lD_ | apply lA_)); refine blk_put (cs := #[.int .i64 t222, .int .i64 t223, .int .i64 t224, .int .i64 t225, .int .i64 t226, .bool t227, .int .i64 t228, .int .i64 t229, .int .i64 t230, .int .i64 t231, .bool t232, .string (⟨#[]⟩ : ByteArray), .int .i64 0]) ?_ 11 _ rfl; (with_reducible repeat (first | apply lN_ | apply lD_ | apply lA_)); refine blk_put (cs := #[.int .i64 t222, .int .i64 t223, .int .i64 t224, .int .i64 t225, .int .i64 t226, .bool t227, .int .i64 t228, .int .i64 t229, .int .i64 t230, .int .i64 t231, .bool false, .string (⟨#[]⟩ : ByteArray), .int .i64 0]) ?_ 10 _ rfl; (with_reducible repeat (first | apply lN_ | apply lD_ | apply lA_)); refine blk_put (cs := #[.int .i64 t222, .int .i64 t223, .int .i64 t224, .int .i64 t225, .int .i64 t226, .bool t227, .int .i64 t228, .int .i64 t229, .int .i64 t230, .int .i64 0, .bool false, .string (⟨#[]⟩ : ByteArray), .int .i64 0]) ?_ 9 _ rfl; (with_reducible repeat (first | apply lN_ | apply lD_ | apply lA_)); refine blk_put (cs := #[.int .i64 t222, .int .i64 t223, .int .i64 t224, .int .i64 t225, .int .i64 t226, .bool t227, .int .i64 t228, .int .i64 t229, .int .i64 0, .int .i64 0, .bool false, .string (⟨#[]⟩ : ByteArray), .int .i64 0]) ?_ 8 _ rfl; (with_reducible repeat (first | apply lN_ | apply lD_ | apply lA_)); refine blk_put (cs := #[.int .i64 t222, .int .i64 t223, .int .i64 t224, .int .i64 t225, .int .i64 t226, .bool t227, .int .i64 t228, .int .i64 0, .int .i64 0, .int .i64 0, .bool false, .string (⟨#[]⟩ : ByteArray), .int .i64 0]) ?_ 7 _ rfl; (with_reducible repeat (first | apply lN_ | apply lD_ | apply lA_)); refine blk_put (cs := #[.int .i64 t222, .int .i64 t223, .int .i64 t224, .int .i64 t225, .int .i64 t226, .bool t227, .int .i64 0, .int .i64 0, .int .i64 0, .int .i64 0, .bool false, .string (⟨#[]⟩ : ByteArray), .int .i64 0]) ?_ 6 _ rfl; (with_reducible repeat (first | apply lN_ | apply lD_ | apply lA_)); refine blk_put (cs := #[.int .i64 t222, .int .i64 t223, .int .i64 t224, .int .i64 t225, .int .i64 t226, .bool false, .int .i64 0, .int .i64 0, .int .i64 0, .int .i64 0, .bool false, .string (⟨#[]⟩ : ByteArray), .int .i64 0]) ?_ 5 _ rfl; (with_reducible repeat (first | apply lN_ | apply lD_ | apply lA_)); refine blk_put (cs := #[.int .i64 t222, .int .i64 t223, .int .i64 t224, .int .i64 t225, .int .i64 0, .bool false, .int .i64 0, .int .i64 0, .int .i64 0, .int .i64 0, .bool false, .string (⟨#[]⟩ : ByteArray), .int .i64 0]) ?_ 4 _ rfl; (with_reducible repeat (first | apply lN_ | apply lD_ | apply lA_)); refine blk_put (cs := #[.int .i64 t222, .int .i64 t223, .int .i64 t224, .int .i64 0, .int .i64 0, .bool false, .int .i64 0, .int .i64 0, .int .i64 0, .int .i64 0, .bool false, .string (⟨#[]⟩ : ByteArray), .int .i64 0]) ?_ 3 _ rfl; (with_reducible repeat (first | apply lN_ | apply lD_ | apply lA_)); refine blk_put (cs := #[.int .i64 t222, .int .i64 t223, .int .i64 0, .int .i64 0, .int .i64 0, .bool false, .int .i64 0, .int .i64 0, .int .i64 0, .int .i64 0, .bool false, .string (⟨#[]⟩ : ByteArray), .int .i64 0]) ?_ 2 _ rfl; (with_reducible repeat (first | apply lN_ | apply lD_ | apply lA_)); refine blk_put (cs := #[.int .i64 t222, .int .i64 0, .int .i64 0, .int .i64 0, .int .i64 0, .bool false, .int .i64 0, .int .i64 0, .int .i64 0, .int .i64 0, .bool false, .string (⟨#[]⟩ : ByteArray), .int .i64 0]) ?_ 1 _ rfl; (with_reducible repeat (first | apply lN_ | apply lD_ | apply lA_)); refine blk_put (cs := #[.int .i64 0, .int .i64 0, .int .i64 0, .int .i64 0, .int .i64 0, .bool false, .int .i64 0, .int .i64 0, .int .i64 0, .int .i64 0, .bool false, .string (⟨#[]⟩ : ByteArray), .int .i64 0]) ?_ 0 _ rfl; (with_reducible repeat (first | apply lN_ | apply lD_ | apply lA_)); refine blk_far ?_ NB220_221.out _; (with_reducible repeat (first | apply lN_ | apply lD_ | apply lA_)); refine blk_far ?_ NB220_221.out _; (with_reducible repeat (first | apply lN_ | apply lD_ | apply lA_)); exact BK220.out) Tryz.underlying42 rfl (by kernel_rfl)) rfl ?_
 exact ⟨ew_, bb3_ HB GE219 GE220 GE221⟩

/-! ### laws_toSign: function 11 -/
def laws_toSign.f (a0_0 a0_1 : Int) (a0_2 a0_3 a0_4 : Int) (a0_5 : Bool) (a0_6 a0_7 : Int) (a0_8 a0_9 : Int) (a0_10 : Bool) (a0_11 : ByteArray) (a0_12 : Int) (a0_13 : Bool) (a0_14 a0_15 : Int) (a0_16 a0_17 a0_18 : Int) (a0_19 : Bool) (a0_20 a0_21 : Int) (a0_22 a0_23 : Int) (a0_24 : Bool) (a0_25 : ByteArray) (a0_26 : Int) : Option (Int × Int × Int × Int × Int × Bool × Int × Int × Int × Int × Bool × ByteArray × Int × Bool × Int × Int × Int × Int × Int × Bool × Int × Int × Int × Int × Bool × ByteArray × Int) := (laws_toHand.f a0_0 a0_1 a0_2 a0_3 a0_4 a0_5 a0_6 a0_7 a0_8 a0_9 a0_10 a0_11 a0_12).bind fun x => (laws_toHand.f a0_14 a0_15 a0_16 a0_17 a0_18 a0_19 a0_20 a0_21 a0_22 a0_23 a0_24 a0_25 a0_26).bind fun y => some (x.1, x.2.1, x.2.2.1, x.2.2.2.1, x.2.2.2.2.1, x.2.2.2.2.2.1, x.2.2.2.2.2.2.1, x.2.2.2.2.2.2.2.1, x.2.2.2.2.2.2.2.2.1, x.2.2.2.2.2.2.2.2.2.1, x.2.2.2.2.2.2.2.2.2.2.1, x.2.2.2.2.2.2.2.2.2.2.2.1, x.2.2.2.2.2.2.2.2.2.2.2.2, a0_13, y.1, y.2.1, y.2.2.1, y.2.2.2.1, y.2.2.2.2.1, y.2.2.2.2.2.1, y.2.2.2.2.2.2.1, y.2.2.2.2.2.2.2.1, y.2.2.2.2.2.2.2.2.1, y.2.2.2.2.2.2.2.2.2.1, y.2.2.2.2.2.2.2.2.2.2.1, y.2.2.2.2.2.2.2.2.2.2.2.1, y.2.2.2.2.2.2.2.2.2.2.2.2)
set_option maxHeartbeats 8000000 in
set_option maxRecDepth 100000 in
theorem laws_toSign.calls (a0_0 a0_1 : Int) (a0_2 a0_3 a0_4 : Int) (a0_5 : Bool) (a0_6 a0_7 : Int) (a0_8 a0_9 : Int) (a0_10 : Bool) (a0_11 : ByteArray) (a0_12 : Int) (a0_13 : Bool) (a0_14 a0_15 : Int) (a0_16 a0_17 a0_18 : Int) (a0_19 : Bool) (a0_20 a0_21 : Int) (a0_22 a0_23 : Int) (a0_24 : Bool) (a0_25 : ByteArray) (a0_26 r1 : Int) (r2 r3 : Int) (r4 r5 : Int) (r6 : Bool) (r7 r8 : Int) (r9 r10 : Int) (r11 : Bool) (r12 : ByteArray) (r13 : Int) (r14 : Bool) (r15 r16 : Int) (r17 r18 r19 : Int) (r20 : Bool) (r21 r22 : Int) (r23 r24 : Int) (r25 : Bool) (r26 : ByteArray) (r27 : Int) (w : World) (h : laws_toSign.f a0_0 a0_1 a0_2 a0_3 a0_4 a0_5 a0_6 a0_7 a0_8 a0_9 a0_10 a0_11 a0_12 a0_13 a0_14 a0_15 a0_16 a0_17 a0_18 a0_19 a0_20 a0_21 a0_22 a0_23 a0_24 a0_25 a0_26 = some (r1, r2, r3, r4, r5, r6, r7, r8, r9, r10, r11, r12, r13, r14, r15, r16, r17, r18, r19, r20, r21, r22, r23, r24, r25, r26, r27)) :
  Calls Tryz.prog 11 #[.agg #[.int .i64 a0_0, .int .i64 a0_1, .int .i64 a0_2, .int .i64 a0_3, .int .i64 a0_4, .bool a0_5, .int .i64 a0_6, .int .i64 a0_7, .int .i64 a0_8, .int .i64 a0_9, .bool a0_10, .string a0_11, .int .i64 a0_12, .bool a0_13, .int .i64 a0_14, .int .i64 a0_15, .int .i64 a0_16, .int .i64 a0_17, .int .i64 a0_18, .bool a0_19, .int .i64 a0_20, .int .i64 a0_21, .int .i64 a0_22, .int .i64 a0_23, .bool a0_24, .string a0_25, .int .i64 a0_26]] w fun e w' => e = .returned (.agg #[.int .i64 r1, .int .i64 r2, .int .i64 r3, .int .i64 r4, .int .i64 r5, .bool r6, .int .i64 r7, .int .i64 r8, .int .i64 r9, .int .i64 r10, .bool r11, .string r12, .int .i64 r13, .bool r14, .int .i64 r15, .int .i64 r16, .int .i64 r17, .int .i64 r18, .int .i64 r19, .bool r20, .int .i64 r21, .int .i64 r22, .int .i64 r23, .int .i64 r24, .bool r25, .string r26, .int .i64 r27]) ∧ Below w.heap.size w w' := by
 obtain ⟨⟨t0, t1, t2, t3, t4, t5, t6, t7, t8, t9, t10, t11, t12⟩, E1, h⟩ := Option.bind_eq_some_iff.mp h
 obtain ⟨⟨u0, u1, u2, u3, u4, u5, u6, u7, u8, u9, u10, u11, u12⟩, E2, h⟩ := Option.bind_eq_some_iff.mp h
 simp only [Option.some.injEq, Prod.mk.injEq] at h
 obtain ⟨rfl, rfl, rfl, rfl, rfl, rfl, rfl, rfl, rfl, rfl, rfl, rfl, rfl, rfl, rfl, rfl, rfl, rfl, rfl, rfl, rfl, rfl, rfl, rfl, rfl, rfl, rfl⟩ := h
 have E1 := Aside0.mk E1
 have E2 := Aside0.mk E2
 have HB := am_ (Below.refl w.heap.size w)
 go_enter Tryz.func11, Tryz.ntmps11
 go_wp2_with (first
  | ((with_reducible refine gate_dst (N := 1) rfl ?_); refine bx_ (cs := #[.int .i64 a0_0, .int .i64 a0_1, .int .i64 a0_2, .int .i64 a0_3, .int .i64 a0_4, .bool a0_5, .int .i64 a0_6, .int .i64 a0_7, .int .i64 a0_8, .int .i64 a0_9, .bool a0_10, .string a0_11, .int .i64 a0_12, .bool a0_13, .int .i64 a0_14, .int .i64 a0_15, .int .i64 a0_16, .int .i64 a0_17, .int .i64 a0_18, .bool a0_19, .int .i64 a0_20, .int .i64 a0_21, .int .i64 a0_22, .int .i64 a0_23, .bool a0_24, .string a0_25, .int .i64 a0_26]) (t := 33) ?_; intro g1 hg w1 hbox hb; have GE1 := am_ (show w.heap.size ≤ g1 by rw [hg]; exact below_size HB.out); have HBn := am_ (below_step HB.out hb); clear HB; have HB := HBn; clear HBn; have BK1 := am_ (show w1.heap[g1]? = some (.cells ([.int .i64 a0_0, .int .i64 a0_1, .int .i64 a0_2, .int .i64 a0_3, .int .i64 a0_4, .bool a0_5, .int .i64 a0_6, .int .i64 a0_7, .int .i64 a0_8, .int .i64 a0_9, .bool a0_10, .string a0_11, .int .i64 a0_12, .bool a0_13, .int .i64 a0_14, .int .i64 a0_15, .int .i64 a0_16, .int .i64 a0_17, .int .i64 a0_18, .bool a0_19, .int .i64 a0_20, .int .i64 a0_21, .int .i64 a0_22, .int .i64 a0_23, .bool a0_24, .string a0_25, .int .i64 a0_26] : List Value).toArray 33 (0, 0)) from hbox); clear hbox hb hg)
  | ((with_reducible refine gate_dst (N := 2) rfl ?_); refine bx_ (cs := #[.int .i64 0, .int .i64 0, .int .i64 0, .int .i64 0, .int .i64 0, .bool false, .int .i64 0, .int .i64 0, .int .i64 0, .int .i64 0, .bool false, .string (⟨#[]⟩ : ByteArray), .int .i64 0, .bool false, .int .i64 0, .int .i64 0, .int .i64 0, .int .i64 0, .int .i64 0, .bool false, .int .i64 0, .int .i64 0, .int .i64 0, .int .i64 0, .bool false, .string (⟨#[]⟩ : ByteArray), .int .i64 0]) (t := 44) ?_; intro g2 hg w2 hbox hb; have NE12 := am_ (show g1 ≠ g2 by have := blk_lt BK1.out; omega); have BKn1 := am_ (blk_below BK1.out hb); have GE2 := am_ (show w.heap.size ≤ g2 by rw [hg]; exact below_size HB.out); have HBn := am_ (below_step HB.out hb); clear HB; have HB := HBn; clear HBn; clear BK1; have BK1 := BKn1; clear BKn1; have BK2 := am_ (show w2.heap[g2]? = some (.cells ([.int .i64 0, .int .i64 0, .int .i64 0, .int .i64 0, .int .i64 0, .bool false, .int .i64 0, .int .i64 0, .int .i64 0, .int .i64 0, .bool false, .string (⟨#[]⟩ : ByteArray), .int .i64 0, .bool false, .int .i64 0, .int .i64 0, .int .i64 0, .int .i64 0, .int .i64 0, .bool false, .int .i64 0, .int .i64 0, .int .i64 0, .int .i64 0, .bool false, .string (⟨#[]⟩ : ByteArray), .int .i64 0] : List Value).toArray 44 (0, 0)) from hbox); clear hbox hb hg)
  | ((with_reducible refine gate_dst (N := 3) rfl ?_); refine bx_ (cs := #[.int .i64 0, .int .i64 0, .int .i64 0, .int .i64 0, .int .i64 0, .bool false, .int .i64 0, .int .i64 0, .int .i64 0, .int .i64 0, .bool false, .string (⟨#[]⟩ : ByteArray), .int .i64 0, .bool false, .int .i64 0, .int .i64 0, .int .i64 0, .int .i64 0, .int .i64 0, .bool false, .int .i64 0, .int .i64 0, .int .i64 0, .int .i64 0, .bool false, .string (⟨#[]⟩ : ByteArray), .int .i64 0]) (t := 44) ?_; intro g3 hg w3 hbox hb; have NE13 := am_ (show g1 ≠ g3 by have := blk_lt BK1.out; omega); have NE23 := am_ (show g2 ≠ g3 by have := blk_lt BK2.out; omega); have BKn1 := am_ (blk_below BK1.out hb); have BKn2 := am_ (blk_below BK2.out hb); have GE3 := am_ (show w.heap.size ≤ g3 by rw [hg]; exact below_size HB.out); have HBn := am_ (below_step HB.out hb); clear HB; have HB := HBn; clear HBn; clear BK1 BK2; have BK1 := BKn1; clear BKn1; have BK2 := BKn2; clear BKn2; have BK3 := am_ (show w3.heap[g3]? = some (.cells ([.int .i64 0, .int .i64 0, .int .i64 0, .int .i64 0, .int .i64 0, .bool false, .int .i64 0, .int .i64 0, .int .i64 0, .int .i64 0, .bool false, .string (⟨#[]⟩ : ByteArray), .int .i64 0, .bool false, .int .i64 0, .int .i64 0, .int .i64 0, .int .i64 0, .int .i64 0, .bool false, .int .i64 0, .int .i64 0, .int .i64 0, .int .i64 0, .bool false, .string (⟨#[]⟩ : ByteArray), .int .i64 0] : List Value).toArray 44 (0, 0)) from hbox); clear hbox hb hg)
  | ((with_reducible refine gate_dst (N := 5) rfl ?_); refine load_part (p := 4) (t := 31) (off := 0) ?hg ?ho BK1.out [.int .i64 a0_0, .int .i64 a0_1, .int .i64 a0_2, .int .i64 a0_3, .int .i64 a0_4, .bool a0_5, .int .i64 a0_6, .int .i64 a0_7, .int .i64 a0_8, .int .i64 a0_9, .bool a0_10, .string a0_11, .int .i64 a0_12] ?ha ?hs ?hi ?hv ?_; (case hg => rfl); (case ho => rfl); (case ha => rfl); (case hs => kernel_rfl); (case hi => exact fun _ => by kernel_rfl); (case hv => rfl))
  | ((with_reducible refine gate_store (p := 7) rfl ?_); (refine store_part (p := 7) (x := .tmp 6) (t := 42) (off := 0) ?hg ?ho ?hn BK3.out (.agg #[.int .i64 t0, .int .i64 t1, .int .i64 t2, .int .i64 t3, .int .i64 t4, .bool t5, .int .i64 t6, .int .i64 t7, .int .i64 t8, .int .i64 t9, .bool t10, .string t11, .int .i64 t12]) [.int .i64 t0, .int .i64 t1, .int .i64 t2, .int .i64 t3, .int .i64 t4, .bool t5, .int .i64 t6, .int .i64 t7, .int .i64 t8, .int .i64 t9, .bool t10, .string t11, .int .i64 t12] [.int .i64 t0, .int .i64 t1, .int .i64 t2, .int .i64 t3, .int .i64 t4, .bool t5, .int .i64 t6, .int .i64 t7, .int .i64 t8, .int .i64 t9, .bool t10, .string t11, .int .i64 t12, .bool false, .int .i64 0, .int .i64 0, .int .i64 0, .int .i64 0, .int .i64 0, .bool false, .int .i64 0, .int .i64 0, .int .i64 0, .int .i64 0, .bool false, .string (⟨#[]⟩ : ByteArray), .int .i64 0] ?ha ?hx ?hu ?hs ?hf ?h1 ?hc ?_; (case hg => rfl); (case ho => rfl); (case hn => rfl); (case ha => rfl); (case hx => rfl); (case hu => rfl); (case hs => kernel_rfl); (case hf => exact Nat.le_of_ble_eq_true rfl); (case h1 => rfl); (case hc => rfl); intro w5 hbk hk hbl; have BKn1 := am_ (hk _ _ NE13.out BK1.out); have BKn2 := am_ (hk _ _ NE23.out BK2.out); have BKn3 := Aside0.mk hbk; have HBn := am_ (hbl _ _ HB.out GE3.out); clear HB hbk hk hbl; have HB := HBn; clear HBn; clear BK1 BK2 BK3; have BK1 := BKn1; clear BKn1; have BK2 := BKn2; clear BKn2; have BK3 := BKn3; clear BKn3))
  | ((with_reducible refine gate_dst (N := 12) rfl ?_); refine load_part (p := 11) (t := 31) (off := 14) ?hg ?ho BK1.out [.int .i64 a0_14, .int .i64 a0_15, .int .i64 a0_16, .int .i64 a0_17, .int .i64 a0_18, .bool a0_19, .int .i64 a0_20, .int .i64 a0_21, .int .i64 a0_22, .int .i64 a0_23, .bool a0_24, .string a0_25, .int .i64 a0_26] ?ha ?hs ?hi ?hv ?_; (case hg => rfl); (case ho => rfl); (case ha => rfl); (case hs => kernel_rfl); (case hi => exact fun _ => by kernel_rfl); (case hv => rfl))
  | ((with_reducible refine gate_store (p := 14) rfl ?_); (refine store_part (p := 14) (x := .tmp 13) (t := 42) (off := 14) ?hg ?ho ?hn BK3.out (.agg #[.int .i64 u0, .int .i64 u1, .int .i64 u2, .int .i64 u3, .int .i64 u4, .bool u5, .int .i64 u6, .int .i64 u7, .int .i64 u8, .int .i64 u9, .bool u10, .string u11, .int .i64 u12]) [.int .i64 u0, .int .i64 u1, .int .i64 u2, .int .i64 u3, .int .i64 u4, .bool u5, .int .i64 u6, .int .i64 u7, .int .i64 u8, .int .i64 u9, .bool u10, .string u11, .int .i64 u12] [.int .i64 t0, .int .i64 t1, .int .i64 t2, .int .i64 t3, .int .i64 t4, .bool t5, .int .i64 t6, .int .i64 t7, .int .i64 t8, .int .i64 t9, .bool t10, .string t11, .int .i64 t12, .bool a0_13, .int .i64 u0, .int .i64 u1, .int .i64 u2, .int .i64 u3, .int .i64 u4, .bool u5, .int .i64 u6, .int .i64 u7, .int .i64 u8, .int .i64 u9, .bool u10, .string u11, .int .i64 u12] ?ha ?hx ?hu ?hs ?hf ?h1 ?hc ?_; (case hg => rfl); (case ho => rfl); (case hn => rfl); (case ha => rfl); (case hx => rfl); (case hu => rfl); (case hs => kernel_rfl); (case hf => exact Nat.le_of_ble_eq_true rfl); (case h1 => rfl); (case hc => rfl); intro w9 hbk hk hbl; have BKn1 := am_ (hk _ _ NE13.out BK1.out); have BKn2 := am_ (hk _ _ NE23.out BK2.out); have BKn3 := Aside0.mk hbk; have HBn := am_ (hbl _ _ HB.out GE3.out); clear HB hbk hk hbl; have HB := HBn; clear HBn; clear BK1 BK2 BK3; have BK1 := BKn1; clear BKn1; have BK2 := BKn2; clear BKn2; have BK3 := BKn3; clear BKn3))
  | ((with_reducible refine gate_dst (N := 9) rfl ?_); refine load_one (p := 8) (t := 4) (off := 13) ?hg ?ho BK1.out (.bool a0_13) ?ha ?hi ?hv ?_; (case hg => rfl); (case ho => rfl); (case ha => rfl); (case hi => exact fun _ => by kernel_rfl); (case hv => rfl))
  | ((with_reducible refine gate_store (p := 10) rfl ?_); (refine store_part (p := 10) (x := .tmp 9) (t := 4) (off := 13) ?hg ?ho ?hn BK3.out (.bool a0_13) [.bool a0_13] [.int .i64 t0, .int .i64 t1, .int .i64 t2, .int .i64 t3, .int .i64 t4, .bool t5, .int .i64 t6, .int .i64 t7, .int .i64 t8, .int .i64 t9, .bool t10, .string t11, .int .i64 t12, .bool a0_13, .int .i64 0, .int .i64 0, .int .i64 0, .int .i64 0, .int .i64 0, .bool false, .int .i64 0, .int .i64 0, .int .i64 0, .int .i64 0, .bool false, .string (⟨#[]⟩ : ByteArray), .int .i64 0] ?ha ?hx ?hu ?hs ?hf ?h1 ?hc ?_; (case hg => rfl); (case ho => rfl); (case hn => rfl); (case ha => rfl); (case hx => rfl); (case hu => rfl); (case hs => kernel_rfl); (case hf => exact Nat.le_of_ble_eq_true rfl); (case h1 => rfl); (case hc => rfl); intro w7 hbk hk hbl; have BKn1 := am_ (hk _ _ NE13.out BK1.out); have BKn2 := am_ (hk _ _ NE23.out BK2.out); have BKn3 := Aside0.mk hbk; have HBn := am_ (hbl _ _ HB.out GE3.out); clear HB hbk hk hbl; have HB := HBn; clear HBn; clear BK1 BK2 BK3; have BK1 := BKn1; clear BKn1; have BK2 := BKn2; clear BKn2; have BK3 := BKn3; clear BKn3))
  | ((with_reducible refine gate_dst (N := 15) rfl ?_); refine load_part (p := 3) (t := 44) (off := 0) ?hg ?ho BK3.out [.int .i64 t0, .int .i64 t1, .int .i64 t2, .int .i64 t3, .int .i64 t4, .bool t5, .int .i64 t6, .int .i64 t7, .int .i64 t8, .int .i64 t9, .bool t10, .string t11, .int .i64 t12, .bool a0_13, .int .i64 u0, .int .i64 u1, .int .i64 u2, .int .i64 u3, .int .i64 u4, .bool u5, .int .i64 u6, .int .i64 u7, .int .i64 u8, .int .i64 u9, .bool u10, .string u11, .int .i64 u12] ?ha ?hs ?hi ?hv ?_; (case hg => rfl); (case ho => rfl); (case ha => rfl); (case hs => kernel_rfl); (case hi => exact fun _ => by kernel_rfl); (case hv => rfl))
  | ((with_reducible refine gate_store (p := 2) rfl ?_); (refine store_part (p := 2) (x := .tmp 15) (t := 44) (off := 0) ?hg ?ho ?hn BK2.out (.agg #[.int .i64 t0, .int .i64 t1, .int .i64 t2, .int .i64 t3, .int .i64 t4, .bool t5, .int .i64 t6, .int .i64 t7, .int .i64 t8, .int .i64 t9, .bool t10, .string t11, .int .i64 t12, .bool a0_13, .int .i64 u0, .int .i64 u1, .int .i64 u2, .int .i64 u3, .int .i64 u4, .bool u5, .int .i64 u6, .int .i64 u7, .int .i64 u8, .int .i64 u9, .bool u10, .string u11, .int .i64 u12]) [.int .i64 t0, .int .i64 t1, .int .i64 t2, .int .i64 t3, .int .i64 t4, .bool t5, .int .i64 t6, .int .i64 t7, .int .i64 t8, .int .i64 t9, .bool t10, .string t11, .int .i64 t12, .bool a0_13, .int .i64 u0, .int .i64 u1, .int .i64 u2, .int .i64 u3, .int .i64 u4, .bool u5, .int .i64 u6, .int .i64 u7, .int .i64 u8, .int .i64 u9, .bool u10, .string u11, .int .i64 u12] [.int .i64 t0, .int .i64 t1, .int .i64 t2, .int .i64 t3, .int .i64 t4, .bool t5, .int .i64 t6, .int .i64 t7, .int .i64 t8, .int .i64 t9, .bool t10, .string t11, .int .i64 t12, .bool a0_13, .int .i64 u0, .int .i64 u1, .int .i64 u2, .int .i64 u3, .int .i64 u4, .bool u5, .int .i64 u6, .int .i64 u7, .int .i64 u8, .int .i64 u9, .bool u10, .string u11, .int .i64 u12] ?ha ?hx ?hu ?hs ?hf ?h1 ?hc ?_; (case hg => rfl); (case ho => rfl); (case hn => rfl); (case ha => rfl); (case hx => rfl); (case hu => rfl); (case hs => kernel_rfl); (case hf => exact Nat.le_of_ble_eq_true rfl); (case h1 => rfl); (case hc => rfl); intro w11 hbk hk hbl; have BKn2 := Aside0.mk hbk; have HBn := am_ (hbl _ _ HB.out GE2.out); clear HB hbk hk hbl; have HB := HBn; clear HBn; clear BK2; have BK2 := BKn2; clear BKn2))
  | (go_at_call 27; (with_reducible refine (laws_toHand.calls a0_0 a0_1 a0_2 a0_3 a0_4 a0_5 a0_6 a0_7 a0_8 a0_9 a0_10 a0_11 a0_12 t0 t1 t2 t3 t4 t5 t6 t7 t8 t9 t10 t11 t12 _ E1.out).mono ?_); rintro e w4 ⟨rfl, hb⟩; have BKn1 := am_ (blk_below BK1.out hb); have BKn2 := am_ (blk_below BK2.out hb); have BKn3 := am_ (blk_below BK3.out hb); have HBn := am_ (below_step HB.out hb); clear BK1 BK2 BK3 HB hb; have BK1 := BKn1; have BK2 := BKn2; have BK3 := BKn3; have HB := HBn; clear BKn1 BKn2 BKn3 HBn)
  | (go_at_call 27; (with_reducible refine (laws_toHand.calls a0_14 a0_15 a0_16 a0_17 a0_18 a0_19 a0_20 a0_21 a0_22 a0_23 a0_24 a0_25 a0_26 u0 u1 u2 u3 u4 u5 u6 u7 u8 u9 u10 u11 u12 _ E2.out).mono ?_); rintro e w8 ⟨rfl, hb⟩; have BKn1 := am_ (blk_below BK1.out hb); have BKn2 := am_ (blk_below BK2.out hb); have BKn3 := am_ (blk_below BK3.out hb); have HBn := am_ (below_step HB.out hb); clear BK1 BK2 BK3 HB hb; have BK1 := BKn1; have BK2 := BKn2; have BK3 := BKn3; have HB := HBn; clear BKn1 BKn2 BKn3 HBn))
 refine bodyPost_ret (results_cell_row rfl _ _ g2 44 #[.int .i64 t0, .int .i64 t1, .int .i64 t2, .int .i64 t3, .int .i64 t4, .bool t5, .int .i64 t6, .int .i64 t7, .int .i64 t8, .int .i64 t9, .bool t10, .string t11, .int .i64 t12, .bool a0_13, .int .i64 u0, .int .i64 u1, .int .i64 u2, .int .i64 u3, .int .i64 u4, .bool u5, .int .i64 u6, .int .i64 u7, .int .i64 u8, .int .i64 u9, .bool u10, .string u11, .int .i64 u12] (0, 0) _ rfl BK2.out Tryz.underlying44 rfl (by kernel_rfl)) rfl ?_
 exact ⟨rfl, HB.out⟩

/-! ### impl_Shape_bends: function 100 -/
def impl_Shape_bends.f (a0_0 a0_1 : Int) (a0_2 a0_3 a0_4 : Int) (a0_5 : Bool) : Option (List Int) := some (([a0_1, a0_2, a0_3, a0_4] : List Int))
set_option maxHeartbeats 8000000 in
set_option maxRecDepth 100000 in
theorem impl_Shape_bends.calls (a0_0 a0_1 : Int) (a0_2 a0_3 a0_4 : Int) (a0_5 : Bool) (r : List Int) (w : World) (h : impl_Shape_bends.f a0_0 a0_1 a0_2 a0_3 a0_4 a0_5 = some r) :
  Calls Tryz.prog 100 #[.agg #[.int .i64 a0_0, .int .i64 a0_1, .int .i64 a0_2, .int .i64 a0_3, .int .i64 a0_4, .bool a0_5]] w fun e w' => ∃ v0_ : Value, e = .returned (v0_) ∧ Kd.R (Kd.int .i64) 3 w' w.heap.size (fun _ => True) v0_ r ∧ Below w.heap.size w w' := by
 have hu37 := Tryz.underlying37
 have HB := am_ (Below.refl w.heap.size w)
 have H : (some (([a0_1, a0_2, a0_3, a0_4] : List Int))) = some r := h
 clear h
 obtain ⟨y236, hy236⟩ : ∃ y_ : List Int, y_ = (([a0_1, a0_2, a0_3, a0_4] : List Int)) := ⟨_, rfl⟩
 replace H : (some y236) = some r := by first | (rw [hy236]; with_reducible exact H) | (have H2_ := (Option.bind_some _ _).symm.trans H; rw [hy236]; with_reducible exact H2_) | (have H2_ := (Option.bind_some _ _).symm.trans H; with_reducible exact H2_) | with_reducible exact H | (rw [hy236]; exact H) | exact H
 have Ny236 := Aside0.mk hy236
 clear hy236
 obtain rfl := Option.some.inj H
 go_enter Tryz.func100, Tryz.ntmps100
 go_wp2_with (first | ((with_reducible refine gate_dst (N := 1) rfl ?_); refine bx_ (cs := #[.int .i64 a0_0, .int .i64 a0_1, .int .i64 a0_2, .int .i64 a0_3, .int .i64 a0_4, .bool a0_5]) (t := 37) ?_; intro gb235 hg w2 hbox hb; have BK235 := am_ (hbox); have GW235 := gz_ hg HB; have GE235 := gz_ hg HB; replace HB := am_ (bt_ HB hb); clear hb hbox hg; have hcz3_0 := cz0_ BK235; have hcz3_1 := cz1_ BK235; have hcz3_2 := cz2_ BK235; have hcz3_3 := cz3_ BK235; have hcz3_4 := cz4_ BK235; have hcz3_5 := cz5_ BK235) | ((with_reducible refine gate_dst (N := 11) rfl ?_); refine Kd.R_lit (Kd.int .i64) _ 3 ?hg (N := 11) ?hd (xs := ([a0_1, a0_2, a0_3, a0_4] : List Int)) (inner := [.int .i64 a0_1, .int .i64 a0_2, .int .i64 a0_3, .int .i64 a0_4]) (ok := fun _ => True) (okp := fun _ => True) ?hr ?hp (fun _ hk => hk) trivial (Below.refl _ _) (Nat.le_refl _) (by simp) ?_; (case hd => rfl); (case hg => rfl); (case hr => first | (go_simp; done) | (go_simp; rfl)); (case hp => exact (Reps.one (show Kd.M (Kd.int .i64) _ _ _ a0_1 [.int .i64 a0_1] from rfl) (Reps.one (show Kd.M (Kd.int .i64) _ _ _ a0_2 [.int .i64 a0_2] from rfl) (Reps.one (show Kd.M (Kd.int .i64) _ _ _ a0_3 [.int .i64 a0_3] from rfl) (Reps.one (show Kd.M (Kd.int .i64) _ _ _ a0_4 [.int .i64 a0_4] from rfl) (Reps.none _ _)))))); intro v237 w4 ho5 hb hg_ hnew_; clear hg_ hnew_; (first | rw [← Ny236.out] at ho5 | (simp only [Int.reduceToNat] at ho5; rw [← Ny236.out] at ho5)); have HO238 := am_ (Kd.R_lower ho5 (below_size (bb1_ HB GE235))); replace BK235 := am_ (lb_ BK235 hb); replace HB := am_ (below_step (bb1_ HB GE235) hb); clear hb ho5))
 go_ret
 exact ⟨_, ew_, by (with_reducible repeat (first | apply rA_ | apply rN_ | apply rD_)); exact HO238.out, bb1_ HB GE235⟩

/-! ### impl_within: function 63 -/
def impl_within.f (a0 a1 a2 : Int) : Option (Bool) := if a0 ≥ a1 then (some (decide (a0 ≤ a2))) else (some false)
set_option maxHeartbeats 8000000 in
set_option maxRecDepth 100000 in
theorem impl_within.calls (a0 a1 a2 : Int) (r : Bool) (w : World) (h : impl_within.f a0 a1 a2 = some r) :
  Calls Tryz.prog 63 #[.int .i64 a0, .int .i64 a1, .int .i64 a2] w fun e w' => e = .returned (.bool r) ∧ Drawn0 w w' := by
 have H : (if a0 ≥ a1 then (some (decide (a0 ≤ a2))) else (some false)) = some r := h
 clear h
 by_cases c4 : a0 ≥ a1
 ·rw [if_pos c4] at H
  have c4b0 : decide (a1 ≤ a0) = true := decide_eq_true c4
  clear c4
  obtain rfl := Option.some.inj H
  go_enter Tryz.func63, Tryz.ntmps63
  go_wp2
  go_ret
  exact ⟨by first | rfl | (simp; done) | (simp [*]; done), by repeat (first | exact Drawn0.refl _ | apply Drawn0.step)⟩
 ·rw [if_neg c4] at H
  have c4b0 : decide (a1 ≤ a0) = false := decide_eq_false c4
  clear c4
  obtain rfl := Option.some.inj H
  go_enter Tryz.func63, Tryz.ntmps63
  go_wp2
  go_ret
  exact ⟨by first | rfl | (simp; done) | (simp [*]; done), by repeat (first | exact Drawn0.refl _ | apply Drawn0.step)⟩

/-! ### impl_allWithin: function 121 -/
/-- Does a number lie outside of a range? -/
def awOut (a1 a2 x : Int) : Bool := !decide (a1 ≤ x ∧ x ≤ a2)
/-- The first place with such a number, or -1. -/
def awIdx (a1 a2 : Int) : Nat → List Int → Int
 | _, [] => -1
 | i, x :: xs => if awOut a1 a2 x = true then (i : Int) else awIdx a1 a2 (i + 1) xs
def awAll (a1 a2 : Int) (l : List Int) : Bool := l.all fun x => decide (a1 ≤ x ∧ x ≤ a2)
theorem awIdx_all (a1 a2 : Int) : ∀ (l : List Int) (i : Nat), (!decide (0 ≤ awIdx a1 a2 i l)) = awAll a1 a2 l
 | [], i => by simp [awIdx, awAll]
 | x :: xs, i => by
  unfold awIdx
  by_cases h : awOut a1 a2 x = true
  ·rw [if_pos h]
   unfold awOut at h
   simp only [Bool.not_eq_true'] at h
   simp only [awAll, List.all_cons, h, Bool.false_and]
   simp
  ·rw [if_neg h, awIdx_all a1 a2 xs (i + 1)]
   unfold awOut at h
   simp only [Bool.not_eq_true', Bool.not_eq_false] at h
   simp only [awAll, List.all_cons, h, Bool.true_and]
theorem aw_within (a b c : Int) : impl_within.f a b c = some (decide (b ≤ a ∧ a ≤ c)) := by
 unfold impl_within.f
 by_cases h : b ≤ a
 ·rw [if_pos h]; simp [h]
 ·rw [if_neg h]; simp [h]
set_option maxHeartbeats 4000000 in
set_option maxRecDepth 100000 in
theorem awOut_calls (x a1 a2 : Int) (p0 p1 : Nat) (w : World) (h0 : w.heap[p0]? = some (.cells #[.int .i64 a1] 3 (0, 0))) (h1 : w.heap[p1]? = some (.cells #[.int .i64 a2] 3 (0, 0))) :
  Calls Tryz.prog 140 #[.int .i64 x, .pointer (some ⟨p0, 0, none⟩), .pointer (some ⟨p1, 0, none⟩)] w fun e w' => e = .returned (.bool (awOut a1 a2 x)) ∧ Drawn0 w w' := by
 have hz0 : w.cell? ⟨p0, 0, none⟩ = some (.int .i64 a1) := (blk_cell h0 0).trans rfl
 have hz1 : w.cell? ⟨p1, 0, none⟩ = some (.int .i64 a2) := (blk_cell h1 0).trans rfl
 have HA := am_ (aw_within x a1 a2)
 clear h0 h1
 go_enter Tryz.func140, Tryz.ntmps140
 go_wp2_with (go_at_call 63; (with_reducible refine (impl_within.calls x a1 a2 _ _ HA.out).mono ?_); rintro e w' ⟨rfl, ⟨nd, rfl⟩⟩)
 go_ret
 exact ⟨by first | rfl | (simp [awOut]; done), by repeat (first | exact Drawn0.refl _ | apply Drawn0.step)⟩
/-- What holds of the numbers from i on. -/
def AWFrom (a1 a2 : Int) (l : List Int) (i : Nat) (r : Int) : Prop := i ≤ l.length ∧ awIdx a1 a2 i (l.drop i) = r
theorem aw_step {a1 a2 : Int} {l : List Int} {i : Nat} {r : Int} (h : AWFrom a1 a2 l i r) (hlt : i < l.length) : (awOut a1 a2 (rd l (i : Int)) = false → AWFrom a1 a2 l (i + 1) r) ∧ (awOut a1 a2 (rd l (i : Int)) = true → r = (i : Int)) := by
 obtain ⟨_, h⟩ := h
 rw [List.drop_eq_getElem_cons hlt] at h
 unfold awIdx at h
 have e : rd l (i : Int) = l[i] := by
  unfold rd
  rw [List.getD_eq_getElem?_getD]
  simp [hlt]
 rw [e]
 refine ⟨fun e => ?_, fun e => ?_⟩
 ·rw [e, if_neg (by decide)] at h; exact ⟨by omega, h⟩
 ·rw [if_pos e] at h; exact h.symm
theorem aw_end {a1 a2 : Int} {l : List Int} {i : Nat} {r : Int} (h : AWFrom a1 a2 l i r) (hge : ¬ i < l.length) : r = -1 := by
 obtain ⟨hi, h⟩ := h
 rw [List.drop_eq_nil_of_le (by omega)] at h
 exact h.symm
set_option maxHeartbeats 4000000 in
set_option maxRecDepth 100000 in
theorem awIndex_calls (A : Option Addr) (c : Nat) (l : List Int) (a1 a2 : Int) (p0 p1 : Nat) (w : World) (hr : Kd.C (Kd.int .i64) w A l.length l) (hn : l.length ≤ 1000) (h0 : w.heap[p0]? = some (.cells #[.int .i64 a1] 3 (0, 0))) (h1 : w.heap[p1]? = some (.cells #[.int .i64 a2] 3 (0, 0))) :
  Calls Tryz.prog 152 #[.slice A l.length c, .func (.func 140) #[] #[.pointer (some ⟨p0, 0, none⟩), .pointer (some ⟨p1, 0, none⟩)]] w fun e w' => e = .returned (.int .i64 (awIdx a1 a2 0 l)) ∧ Drawn0 w w' := by
 obtain ⟨r, hr0⟩ : ∃ r, awIdx a1 a2 0 l = r := ⟨_, rfl⟩
 rw [hr0]
 have HR := Aside0.mk hr
 have BK0 := Aside0.mk h0
 have BK1 := Aside0.mk h1
 have HN := am_ (show AWFrom a1 a2 l 0 r from ⟨Nat.zero_le _, by rw [List.drop_zero]; exact hr0⟩)
 have HD := am_ (Drawn0.refl w)
 have HL := Aside0.mk hn
 clear hr h0 h1 hn hr0
 go_enter Tryz.func152, Tryz.ntmps152
 go_wp2
 go_loopg [8] (l.length) (fun kq v8 w' => ∃ i : Nat, v8 = .int .i64 (i : Int) ∧ Aside0 (kq = l.length - i) ∧ Aside0 (AWFrom a1 a2 l i r) ∧ Aside0 (Drawn0 w w'))
 case atStart => exact ⟨0, rfl, ⟨rfl⟩, HN, HD⟩
 case round =>
  clear HN HD
  obtain ⟨i, rfl, HK, HN, HD⟩ := hrel
  have hll := HL.out
  by_cases hlt : i < l.length
  ·obtain ⟨n1, n2⟩ := aw_step HN.out hlt
   have BK0r := am_ (blk_below BK0.out HD.out.below)
   have BK1r := am_ (blk_below BK1.out HD.out.below)
   obtain ⟨ad, eA, hx⟩ := Kd.at_int (Kd.C_below HR.out HD.out.below) (i : Int) (by omega) (by omega)
   cases eA
   have hx : wr.cell? (ad.add i) = some (.int .i64 (rd l (i : Int))) := hx
   have HW := am_ (fun W h0 h1 => awOut_calls (rd l (i : Int)) a1 a2 p0 p1 W h0 h1)
   generalize rd l (i : Int) = x at n1 n2 hx HW
   have hi0 : (0 : Int) ≤ (i : Int) := by omega
   have hi1 : (i : Int) < (l.length : Int) := by omega
   cases ho : awOut a1 a2 x
   ·have h3 := am_ (n1 ho)
    rw [ho] at HW
    clear n1 n2 ho
    go_wp2_with (go_at_call 140; (with_reducible refine (HW.out _ BK0r.out BK1r.out).mono ?_); rintro e w' ⟨rfl, ⟨nd, rfl⟩⟩)
    go_roundg (l.length - (i + 1))
    case measure => have := HK.out; omega
    case rel => exact ⟨i + 1, by first | rfl | (simp; done), ⟨rfl⟩, h3, ⟨by repeat (first | exact HD.out | apply Drawn0.step)⟩⟩
   ·have h3 := am_ (n2 ho)
    rw [ho] at HW
    clear n1 n2 ho
    go_wp2_with (go_at_call 140; (with_reducible refine (HW.out _ BK0r.out BK1r.out).mono ?_); rintro e w' ⟨rfl, ⟨nd, rfl⟩⟩)
    go_ret
    exact ⟨by rw [h3.out]; rfl, by repeat (first | exact HD.out | apply Drawn0.step)⟩
  ·have h3 := aw_end HN.out hlt
   subst h3
   go_wp2
   go_ret
   exact ⟨rfl, HD.out⟩
set_option maxHeartbeats 4000000 in
set_option maxRecDepth 100000 in
theorem awContains_calls (A : Option Addr) (c : Nat) (l : List Int) (a1 a2 : Int) (p0 p1 : Nat) (w : World) (hr : Kd.C (Kd.int .i64) w A l.length l) (hn : l.length ≤ 1000) (h0 : w.heap[p0]? = some (.cells #[.int .i64 a1] 3 (0, 0))) (h1 : w.heap[p1]? = some (.cells #[.int .i64 a2] 3 (0, 0))) :
  Calls Tryz.prog 139 #[.slice A l.length c, .func (.func 140) #[] #[.pointer (some ⟨p0, 0, none⟩), .pointer (some ⟨p1, 0, none⟩)]] w fun e w' => e = .returned (.bool (!awAll a1 a2 l)) ∧ Drawn0 w w' := by
 have HC := am_ (awIndex_calls A c l a1 a2 p0 p1 w hr hn h0 h1)
 have HQ := am_ (awIdx_all a1 a2 l 0)
 generalize awIdx a1 a2 0 l = r at HC HQ
 generalize awAll a1 a2 l = b at HQ
 clear hr hn h0 h1
 go_enter Tryz.func139, Tryz.ntmps139
 go_wp2_with (go_at_call 152; refine HC.out.mono ?_; rintro e wq ⟨rfl, ⟨nd, rfl⟩⟩)
 go_ret
 exact ⟨by have := HQ.out; first | (rw [← this]; simp; done) | (simp [← this]; done), by repeat (first | exact Drawn0.refl _ | apply Drawn0.step)⟩
def impl_allWithin.f (l0 : List Int) (a1 a2 : Int) : Option Bool := if l0.length ≤ 1000 then some (awAll a1 a2 l0) else none
set_option maxHeartbeats 4000000 in
set_option maxRecDepth 100000 in
theorem impl_allWithin.calls (A0 : Option Addr) (c0 : Nat) (l0 : List Int) (a1 a2 : Int) (r : Bool) (w : World) (hr0 : Kd.C (Kd.int .i64) w A0 l0.length l0) (hc0 : l0.length ≤ c0) (h : impl_allWithin.f l0 a1 a2 = some r) :
  Calls Tryz.prog 121 #[.slice A0 l0.length c0, .int .i64 a1, .int .i64 a2] w fun e w' => e = .returned (.bool r) ∧ Below w.heap.size w w' := by
 unfold impl_allWithin.f at h
 by_cases hl : l0.length ≤ 1000
 ·rw [if_pos hl] at h
  obtain rfl := Option.some.inj h
  have HB := am_ (Below.refl w.heap.size w)
  have HC := am_ (fun W (hb : Below w.heap.size w W) p0 p1 h0 h1 => awContains_calls A0 c0 l0 a1 a2 p0 p1 W (Kd.C_below hr0 hb) hl h0 h1)
  clear hl h hr0 hc0
  go_enter Tryz.func121, Tryz.ntmps121
  go_wp2_with (first | ((with_reducible refine gate_dst (N := 4) rfl ?_); refine bx_ (cs := #[.int .i64 a1]) (t := 3) ?_; intro g0 hg wq hbox hb; have n0_ := am_ (bt_ HB hb); have n1_ := Aside0.mk hbox; have n2_ := gz_ hg HB; clear HB; have HB := n0_; have BK0 := n1_; have GE0 := n2_; clear n0_ n1_ n2_ hb hg hbox) | ((with_reducible refine gate_dst (N := 5) rfl ?_); refine bx_ (cs := #[.int .i64 a2]) (t := 3) ?_; intro g1 hg wq hbox hb; have n0_ := am_ (bt_ HB hb); have n1_ := Aside0.mk hbox; have n2_ := am_ (lb_ BK0 hb); clear HB BK0; have HB := n0_; have BK1 := n1_; have BK0 := n2_; clear n0_ n1_ n2_ hb hg hbox) | (go_at_call 139; refine (HC.out _ (bb_ HB) _ _ (la_ BK0) (la_ BK1)).mono ?_; rintro e wq ⟨rfl, ⟨nd, rfl⟩⟩))
  go_ret
  exact ⟨by first | rfl | (simp; done), bb_ HB⟩
 ·rw [if_neg hl] at h; exact absurd h (by simp)

/-! ### impl_Shape_maySpread: function 122 -/
def impl_Shape_maySpread.f (a0_0 a0_1 : Int) (a0_2 a0_3 a0_4 : Int) (a0_5 : Bool) : Option (Bool) := if a0_2 = 0 then (if a0_1 = 0 then (some true) else (if a0_3 = 0 then (some true) else (some false))) else (if a0_3 = 0 then (some (a0_4 == 0)) else (some false))
set_option maxHeartbeats 8000000 in
set_option maxRecDepth 100000 in
theorem impl_Shape_maySpread.calls (a0_0 a0_1 : Int) (a0_2 a0_3 a0_4 : Int) (a0_5 r : Bool) (w : World) (h : impl_Shape_maySpread.f a0_0 a0_1 a0_2 a0_3 a0_4 a0_5 = some r) :
  Calls Tryz.prog 122 #[.agg #[.int .i64 a0_0, .int .i64 a0_1, .int .i64 a0_2, .int .i64 a0_3, .int .i64 a0_4, .bool a0_5]] w fun e w' => e = .returned (.bool r) ∧ Below w.heap.size w w' := by
 have hu37 := Tryz.underlying37
 have HB := am_ (Below.refl w.heap.size w)
 have H : (if a0_2 = 0 then (if a0_1 = 0 then (some true) else (if a0_3 = 0 then (some true) else (some false))) else (if a0_3 = 0 then (some (a0_4 == 0)) else (some false))) = some r := h
 clear h
 by_cases c2 : a0_2 = 0
 ·rw [if_pos c2] at H
  have c2b0 : (a0_2 == 0) = true := beq_iff_eq.mpr c2
  have c2b1 : (a0_2 != 0) = false := bne_eq_false_iff_eq.mpr c2
  clear c2
  by_cases c3 : a0_1 = 0
  ·rw [if_pos c3] at H
   have c3b0 : (a0_1 == 0) = true := beq_iff_eq.mpr c3
   have c3b1 : (a0_1 != 0) = false := bne_eq_false_iff_eq.mpr c3
   clear c3
   obtain rfl := Option.some.inj H
   go_enter Tryz.func122, Tryz.ntmps122
   go_wp2_with (first | ((with_reducible refine gate_dst (N := 1) rfl ?_); refine bx_ (cs := #[.int .i64 a0_0, .int .i64 a0_1, .int .i64 a0_2, .int .i64 a0_3, .int .i64 a0_4, .bool a0_5]) (t := 37) ?_; intro gb239 hg w4 hbox hb; have BK239 := am_ (hbox); have GW239 := gz_ hg HB; have GE239 := gz_ hg HB; replace HB := am_ (bt_ HB hb); clear hb hbox hg; have hcz5_0 := cz0_ BK239; have hcz5_1 := cz1_ BK239; have hcz5_2 := cz2_ BK239; have hcz5_3 := cz3_ BK239; have hcz5_4 := cz4_ BK239; have hcz5_5 := cz5_ BK239))
   go_ret
   exact ⟨ew_, bb1_ HB GE239⟩
  ·rw [if_neg c3] at H
   have c3b0 : (a0_1 == 0) = false := beq_eq_false_iff_ne.mpr c3
   have c3b1 : (a0_1 != 0) = true := bne_iff_ne.mpr c3
   by_cases c6 : a0_3 = 0
   ·rw [if_pos c6] at H
    have c6b0 : (a0_3 == 0) = true := beq_iff_eq.mpr c6
    have c6b1 : (a0_3 != 0) = false := bne_eq_false_iff_eq.mpr c6
    clear c6
    obtain rfl := Option.some.inj H
    go_enter Tryz.func122, Tryz.ntmps122
    go_wp2_with (first | ((with_reducible refine gate_dst (N := 1) rfl ?_); refine bx_ (cs := #[.int .i64 a0_0, .int .i64 a0_1, .int .i64 a0_2, .int .i64 a0_3, .int .i64 a0_4, .bool a0_5]) (t := 37) ?_; intro gb239 hg w7 hbox hb; have BK239 := am_ (hbox); have GW239 := gz_ hg HB; have GE239 := gz_ hg HB; replace HB := am_ (bt_ HB hb); clear hb hbox hg; have hcz8_0 := cz0_ BK239; have hcz8_1 := cz1_ BK239; have hcz8_2 := cz2_ BK239; have hcz8_3 := cz3_ BK239; have hcz8_4 := cz4_ BK239; have hcz8_5 := cz5_ BK239))
    go_ret
    exact ⟨ew_, bb1_ HB GE239⟩
   ·rw [if_neg c6] at H
    have c6b0 : (a0_3 == 0) = false := beq_eq_false_iff_ne.mpr c6
    have c6b1 : (a0_3 != 0) = true := bne_iff_ne.mpr c6
    obtain rfl := Option.some.inj H
    go_enter Tryz.func122, Tryz.ntmps122
    go_wp2_with (first | ((with_reducible refine gate_dst (N := 1) rfl ?_); refine bx_ (cs := #[.int .i64 a0_0, .int .i64 a0_1, .int .i64 a0_2, .int .i64 a0_3, .int .i64 a0_4, .bool a0_5]) (t := 37) ?_; intro gb239 hg w9 hbox hb; have BK239 := am_ (hbox); have GW239 := gz_ hg HB; have GE239 := gz_ hg HB; replace HB := am_ (bt_ HB hb); clear hb hbox hg; have hcz10_0 := cz0_ BK239; have hcz10_1 := cz1_ BK239; have hcz10_2 := cz2_ BK239; have hcz10_3 := cz3_ BK239; have hcz10_4 := cz4_ BK239; have hcz10_5 := cz5_ BK239))
    go_ret
    exact ⟨ew_, bb1_ HB GE239⟩
 ·rw [if_neg c2] at H
  have c2b0 : (a0_2 == 0) = false := beq_eq_false_iff_ne.mpr c2
  have c2b1 : (a0_2 != 0) = true := bne_iff_ne.mpr c2
  by_cases c11 : a0_3 = 0
  ·rw [if_pos c11] at H
   have c11b0 : (a0_3 == 0) = true := beq_iff_eq.mpr c11
   have c11b1 : (a0_3 != 0) = false := bne_eq_false_iff_eq.mpr c11
   clear c11
   obtain rfl := Option.some.inj H
   go_enter Tryz.func122, Tryz.ntmps122
   go_wp2_with (first | ((with_reducible refine gate_dst (N := 1) rfl ?_); refine bx_ (cs := #[.int .i64 a0_0, .int .i64 a0_1, .int .i64 a0_2, .int .i64 a0_3, .int .i64 a0_4, .bool a0_5]) (t := 37) ?_; intro gb239 hg w12 hbox hb; have BK239 := am_ (hbox); have GW239 := gz_ hg HB; have GE239 := gz_ hg HB; replace HB := am_ (bt_ HB hb); clear hb hbox hg; have hcz13_0 := cz0_ BK239; have hcz13_1 := cz1_ BK239; have hcz13_2 := cz2_ BK239; have hcz13_3 := cz3_ BK239; have hcz13_4 := cz4_ BK239; have hcz13_5 := cz5_ BK239))
   go_ret
   exact ⟨ew_, bb1_ HB GE239⟩
  ·rw [if_neg c11] at H
   have c11b0 : (a0_3 == 0) = false := beq_eq_false_iff_ne.mpr c11
   have c11b1 : (a0_3 != 0) = true := bne_iff_ne.mpr c11
   obtain rfl := Option.some.inj H
   go_enter Tryz.func122, Tryz.ntmps122
   go_wp2_with (first | ((with_reducible refine gate_dst (N := 1) rfl ?_); refine bx_ (cs := #[.int .i64 a0_0, .int .i64 a0_1, .int .i64 a0_2, .int .i64 a0_3, .int .i64 a0_4, .bool a0_5]) (t := 37) ?_; intro gb239 hg w14 hbox hb; have BK239 := am_ (hbox); have GW239 := gz_ hg HB; have GE239 := gz_ hg HB; replace HB := am_ (bt_ HB hb); clear hb hbox hg; have hcz15_0 := cz0_ BK239; have hcz15_1 := cz1_ BK239; have hcz15_2 := cz2_ BK239; have hcz15_3 := cz3_ BK239; have hcz15_4 := cz4_ BK239; have hcz15_5 := cz5_ BK239))
   go_ret
   exact ⟨ew_, bb1_ HB GE239⟩

end Go.Proofs.YtmbffgkejknfaaaGreatDoor.PA
