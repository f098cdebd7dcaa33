-- Written by a program of this session (wip/tools/myprint.py). Not trusted: Lean checks it.
import Derived.Test.YtmbffgkejknfaaaGreatDoorSq4
import Derived.Test.YtmbffgkejknfaaaGreatDoorPAx0
import Derived.Test.YtmbffgkejknfaaaGreatDoorPAx5
import Derived.Test.YtmbffgkejknfaaaGreatDoorPAx13
import Derived.Test.YtmbffgkejknfaaaGreatDoorPAx15
namespace Go.Proofs.YtmbffgkejknfaaaGreatDoor.PA
open Go.RowKit Go.Proofs.YtmbffgkejknfaaaGreatDoorW.PrintWords Go.Proofs.YtmbffgkejknfaaaGreatDoorW.PrintLast Go.Proofs.YtmbffgkejknfaaaGreatDoorW.PrintMore
attribute [local go_sem] max2_int min2_int max_two min_two max_three min_three max_four min_four   -- for this text's walks alone
set_option linter.unusedVariables false
set_option linter.unusedSimpArgs false

attribute [local go_sem high] eqA42
/-! ### impl_IsSign: function 28 -/
def impl_IsSign.f (k : Nat) (a0_0 a0_1 : Int) (a0_2 a0_3 a0_4 : Int) (a0_5 : Bool) (a0_6 a0_7 : Int) (a0_8 a0_9 : Int) (a0_10 : Bool) (a0_11 : ByteArray) (a0_12 : Int) (a0_13 : Bool) (a0_14 a0_15 : Int) (a0_16 a0_17 a0_18 : Int) (a0_19 : Bool) (a0_20 a0_21 : Int) (a0_22 a0_23 : Int) (a0_24 : Bool) (a0_25 : ByteArray) (a0_26 : Int) : Option (Bool) := (impl_IsHand.f k a0_0 a0_1 a0_2 a0_3 a0_4 a0_5 a0_6 a0_7 a0_8 a0_9 a0_10 a0_11 a0_12).bind fun t332 => (if t332 = true then (if a0_13 = true then ((impl_IsHand.f k a0_14 a0_15 a0_16 a0_17 a0_18 a0_19 a0_20 a0_21 a0_22 a0_23 a0_24 a0_25 a0_26).bind fun t333 => (if t333 = true then ((impl_keepRules.f k a0_0 a0_1 a0_2 a0_3 a0_4 a0_5 a0_6 a0_7 a0_8 a0_9 a0_10 a0_11 a0_12 a0_14 a0_15 a0_16 a0_17 a0_18 a0_19 a0_20 a0_21 a0_22 a0_23 a0_24 a0_25 a0_26).bind fun t334 => (some t334)) else (some false))) else (some ((a0_14 == 0 && (a0_15 == 0 && (a0_16 == 0 && (a0_17 == 0 && (a0_18 == 0 && (!a0_19)))))) && ((a0_20 == 0 && (a0_21 == 0)) && ((a0_22 == 0 && (a0_23 == 0 && (!a0_24))) && ((a0_25.toList == ([] : List UInt8) && (a0_26 == 0)))))))) else (some false))
theorem impl_IsSign.mono : ∀ a0 a1 a2 a3 a4 a5 a6 a7 a8 a9 a10 a11 a12 a13 a14 a15 a16 a17 a18 a19 a20 a21 a22 a23 a24 a25 a26 k, LeO (impl_IsSign.f k a0 a1 a2 a3 a4 a5 a6 a7 a8 a9 a10 a11 a12 a13 a14 a15 a16 a17 a18 a19 a20 a21 a22 a23 a24 a25 a26) (impl_IsSign.f (k + 1) a0 a1 a2 a3 a4 a5 a6 a7 a8 a9 a10 a11 a12 a13 a14 a15 a16 a17 a18 a19 a20 a21 a22 a23 a24 a25 a26) := by
 intro a0 a1 a2 a3 a4 a5 a6 a7 a8 a9 a10 a11 a12 a13 a14 a15 a16 a17 a18 a19 a20 a21 a22 a23 a24 a25 a26 k
 unfold impl_IsSign.f
 repeat' first
   | (with_reducible exact impl_IsHand.mono _ _ _ _ _ _ _ _ _ _ _ _ _ _)
   | (with_reducible exact impl_keepRules.mono _ _ _ _ _ _ _ _ _ _ _ _ _ _ _ _ _ _ _ _ _ _ _ _ _ _ _)
   | (with_reducible exact LeO.refl _)
   | (with_reducible exact LeO.none _)
   | (with_reducible refine LeO.ite ?_ ?_)
   | (with_reducible refine LeO.bind ?_ (fun _ => ?_))
   | exact LeO.none _
   | refine LeO.ite ?_ ?_
   | refine LeO.bind ?_ (fun _ => ?_)
set_option maxHeartbeats 8000000 in
set_option maxRecDepth 100000 in
theorem impl_IsSign.calls (k : Nat) (a0_0 a0_1 : Int) (a0_2 a0_3 a0_4 : Int) (a0_5 : Bool) (a0_6 a0_7 : Int) (a0_8 a0_9 : Int) (a0_10 : Bool) (a0_11 : ByteArray) (a0_12 : Int) (a0_13 : Bool) (a0_14 a0_15 : Int) (a0_16 a0_17 a0_18 : Int) (a0_19 : Bool) (a0_20 a0_21 : Int) (a0_22 a0_23 : Int) (a0_24 : Bool) (a0_25 : ByteArray) (a0_26 : Int) (r : Bool) (w : World) (h : impl_IsSign.f k a0_0 a0_1 a0_2 a0_3 a0_4 a0_5 a0_6 a0_7 a0_8 a0_9 a0_10 a0_11 a0_12 a0_13 a0_14 a0_15 a0_16 a0_17 a0_18 a0_19 a0_20 a0_21 a0_22 a0_23 a0_24 a0_25 a0_26 = some r) :
  Calls Tryz.prog 28 #[.agg #[.int .i64 a0_0, .int .i64 a0_1, .int .i64 a0_2, .int .i64 a0_3, .int .i64 a0_4, .bool a0_5, .int .i64 a0_6, .int .i64 a0_7, .int .i64 a0_8, .int .i64 a0_9, .bool a0_10, .string a0_11, .int .i64 a0_12, .bool a0_13, .int .i64 a0_14, .int .i64 a0_15, .int .i64 a0_16, .int .i64 a0_17, .int .i64 a0_18, .bool a0_19, .int .i64 a0_20, .int .i64 a0_21, .int .i64 a0_22, .int .i64 a0_23, .bool a0_24, .string a0_25, .int .i64 a0_26]] w fun e w' => e = .returned (.bool r) ∧ Below w.heap.size w w' := by
 have hu44 := Tryz.underlying44
 have hu42 := Tryz.underlying42
 have HB := am_ (Below.refl w.heap.size w)
 have H : ((impl_IsHand.f k a0_0 a0_1 a0_2 a0_3 a0_4 a0_5 a0_6 a0_7 a0_8 a0_9 a0_10 a0_11 a0_12).bind fun t332 => (if t332 = true then (if a0_13 = true then ((impl_IsHand.f k a0_14 a0_15 a0_16 a0_17 a0_18 a0_19 a0_20 a0_21 a0_22 a0_23 a0_24 a0_25 a0_26).bind fun t333 => (if t333 = true then ((impl_keepRules.f k a0_0 a0_1 a0_2 a0_3 a0_4 a0_5 a0_6 a0_7 a0_8 a0_9 a0_10 a0_11 a0_12 a0_14 a0_15 a0_16 a0_17 a0_18 a0_19 a0_20 a0_21 a0_22 a0_23 a0_24 a0_25 a0_26).bind fun t334 => (some t334)) else (some false))) else (some ((a0_14 == 0 && (a0_15 == 0 && (a0_16 == 0 && (a0_17 == 0 && (a0_18 == 0 && (!a0_19)))))) && ((a0_20 == 0 && (a0_21 == 0)) && ((a0_22 == 0 && (a0_23 == 0 && (!a0_24))) && ((a0_25.toList == ([] : List UInt8) && (a0_26 == 0)))))))) else (some false))) = some r := h
 clear h
 replace H := Option.bind_eq_some_iff.mp H
 obtain ⟨t332, A20, H⟩ := H
 try dsimp only at H
 have A2 := Aside0.mk A20
 clear A20
 by_cases c3 : t332 = true
 ·subst c3
  have H1 : (if a0_13 = true then ((impl_IsHand.f k a0_14 a0_15 a0_16 a0_17 a0_18 a0_19 a0_20 a0_21 a0_22 a0_23 a0_24 a0_25 a0_26).bind fun t333 => (if t333 = true then ((impl_keepRules.f k a0_0 a0_1 a0_2 a0_3 a0_4 a0_5 a0_6 a0_7 a0_8 a0_9 a0_10 a0_11 a0_12 a0_14 a0_15 a0_16 a0_17 a0_18 a0_19 a0_20 a0_21 a0_22 a0_23 a0_24 a0_25 a0_26).bind fun t334 => (some t334)) else (some false))) else (some ((a0_14 == 0 && (a0_15 == 0 && (a0_16 == 0 && (a0_17 == 0 && (a0_18 == 0 && (!a0_19)))))) && ((a0_20 == 0 && (a0_21 == 0)) && ((a0_22 == 0 && (a0_23 == 0 && (!a0_24))) && ((a0_25.toList == ([] : List UInt8) && (a0_26 == 0)))))))) = some r := by rw [if_pos rfl] at H; exact H
  clear H
  have H := H1
  clear H1
  by_cases c4 : a0_13 = true
  ·subst c4
   have H1 : ((impl_IsHand.f k a0_14 a0_15 a0_16 a0_17 a0_18 a0_19 a0_20 a0_21 a0_22 a0_23 a0_24 a0_25 a0_26).bind fun t333 => (if t333 = true then ((impl_keepRules.f k a0_0 a0_1 a0_2 a0_3 a0_4 a0_5 a0_6 a0_7 a0_8 a0_9 a0_10 a0_11 a0_12 a0_14 a0_15 a0_16 a0_17 a0_18 a0_19 a0_20 a0_21 a0_22 a0_23 a0_24 a0_25 a0_26).bind fun t334 => (some t334)) else (some false))) = some r := by rw [if_pos rfl] at H; exact H
   clear H
   have H := H1
   clear H1
   replace H := Option.bind_eq_some_iff.mp H
   obtain ⟨t333, A50, H⟩ := H
   try dsimp only at H
   have A5 := Aside0.mk A50
   clear A50
   by_cases c6 : t333 = true
   ·subst c6
    have H1 : ((impl_keepRules.f k a0_0 a0_1 a0_2 a0_3 a0_4 a0_5 a0_6 a0_7 a0_8 a0_9 a0_10 a0_11 a0_12 a0_14 a0_15 a0_16 a0_17 a0_18 a0_19 a0_20 a0_21 a0_22 a0_23 a0_24 a0_25 a0_26).bind fun t334 => (some t334)) = some r := by rw [if_pos rfl] at H; exact H
    clear H
    have H := H1
    clear H1
    replace H := Option.bind_eq_some_iff.mp H
    obtain ⟨t334, A70, H⟩ := H
    try dsimp only at H
    have A7 := Aside0.mk A70
    clear A70
    obtain rfl := Option.some.inj H
    go_enter Tryz.func28, Tryz.ntmps28
    go_wp2_with (first | ((with_reducible refine gate_dst (N := 1) rfl ?_); refine bx_ (cs := #[.int .i64 a0_0, .int .i64 a0_1, .int .i64 a0_2, .int .i64 a0_3, .int .i64 a0_4, .bool a0_5, .int .i64 a0_6, .int .i64 a0_7, .int .i64 a0_8, .int .i64 a0_9, .bool a0_10, .string a0_11, .int .i64 a0_12, .bool true, .int .i64 a0_14, .int .i64 a0_15, .int .i64 a0_16, .int .i64 a0_17, .int .i64 a0_18, .bool a0_19, .int .i64 a0_20, .int .i64 a0_21, .int .i64 a0_22, .int .i64 a0_23, .bool a0_24, .string a0_25, .int .i64 a0_26]) (t := 44) ?_; intro gb331 hg w8 hbox hb; have BK331 := am_ (hbox); have GW331 := gz_ hg HB; have GE331 := gz_ hg HB; replace HB := am_ (bt_ HB hb); clear hb hbox hg; have hcz9_0 := cz0_ BK331; have hcz9_1 := cz1_ BK331; have hcz9_2 := cz2_ BK331; have hcz9_3 := cz3_ BK331; have hcz9_4 := cz4_ BK331; have hcz9_5 := cz5_ BK331; have hcz9_6 := cz6_ BK331; have hcz9_7 := cz7_ BK331; have hcz9_8 := cz8_ BK331; have hcz9_9 := cz9_ BK331; have hcz9_10 := cz10_ BK331; have hcz9_11 := cz11_ BK331; have hcz9_12 := cz12_ BK331; have hcz9_13 := cz13_ BK331; have hcz9_14 := cz14_ BK331; have hcz9_15 := cz15_ BK331; have hcz9_16 := cz16_ BK331; have hcz9_17 := cz17_ BK331; have hcz9_18 := cz18_ BK331; have hcz9_19 := cz19_ BK331; have hcz9_20 := cz20_ BK331; have hcz9_21 := cz21_ BK331; have hcz9_22 := cz22_ BK331; have hcz9_23 := cz23_ BK331; have hcz9_24 := cz24_ BK331; have hcz9_25 := cz25_ BK331; have hcz9_26 := cz26_ BK331) | ((with_reducible refine gate_callee (f := 51) rfl ?_); refine goesL_ (some 5) rfl rfl Tryz.func51 (by kernel_rfl) rfl #[.agg #[.int .i64 a0_0, .int .i64 a0_1, .int .i64 a0_2, .int .i64 a0_3, .int .i64 a0_4, .bool a0_5, .int .i64 a0_6, .int .i64 a0_7, .int .i64 a0_8, .int .i64 a0_9, .bool a0_10, .string a0_11, .int .i64 a0_12]] rfl args_ ?_; (with_reducible refine (impl_IsHand.calls (w := _) (h := A2.out)).mono ?_); rintro e w10 ⟨rfl, hb⟩; refine ⟨_, rfl, ?_⟩; replace BK331 := am_ (lb_ BK331 hb); replace HB := am_ (below_step (bb1_ HB GE331) hb); (try clear hb); (try clear hb2); (try clear hk); (try clear hi); have hcz11_0 := cz0_ BK331; have hcz11_1 := cz1_ BK331; have hcz11_2 := cz2_ BK331; have hcz11_3 := cz3_ BK331; have hcz11_4 := cz4_ BK331; have hcz11_5 := cz5_ BK331; have hcz11_6 := cz6_ BK331; have hcz11_7 := cz7_ BK331; have hcz11_8 := cz8_ BK331; have hcz11_9 := cz9_ BK331; have hcz11_10 := cz10_ BK331; have hcz11_11 := cz11_ BK331; have hcz11_12 := cz12_ BK331; have hcz11_13 := cz13_ BK331; have hcz11_14 := cz14_ BK331; have hcz11_15 := cz15_ BK331; have hcz11_16 := cz16_ BK331; have hcz11_17 := cz17_ BK331; have hcz11_18 := cz18_ BK331; have hcz11_19 := cz19_ BK331; have hcz11_20 := cz20_ BK331; have hcz11_21 := cz21_ BK331; have hcz11_22 := cz22_ BK331; have hcz11_23 := cz23_ BK331; have hcz11_24 := cz24_ BK331; have hcz11_25 := cz25_ BK331; have hcz11_26 := cz26_ BK331) | ((with_reducible refine gate_callee (f := 51) rfl ?_); refine goesL_ (some 16) rfl rfl Tryz.func51 (by kernel_rfl) rfl #[.agg #[.int .i64 a0_14, .int .i64 a0_15, .int .i64 a0_16, .int .i64 a0_17, .int .i64 a0_18, .bool a0_19, .int .i64 a0_20, .int .i64 a0_21, .int .i64 a0_22, .int .i64 a0_23, .bool a0_24, .string a0_25, .int .i64 a0_26]] rfl args_ ?_; (with_reducible refine (impl_IsHand.calls (w := _) (h := A5.out)).mono ?_); rintro e w12 ⟨rfl, hb⟩; refine ⟨_, rfl, ?_⟩; replace BK331 := am_ (lb_ BK331 hb); replace HB := am_ (below_step (bb1_ HB GE331) hb); (try clear hb); (try clear hb2); (try clear hk); (try clear hi); have hcz13_0 := cz0_ BK331; have hcz13_1 := cz1_ BK331; have hcz13_2 := cz2_ BK331; have hcz13_3 := cz3_ BK331; have hcz13_4 := cz4_ BK331; have hcz13_5 := cz5_ BK331; have hcz13_6 := cz6_ BK331; have hcz13_7 := cz7_ BK331; have hcz13_8 := cz8_ BK331; have hcz13_9 := cz9_ BK331; have hcz13_10 := cz10_ BK331; have hcz13_11 := cz11_ BK331; have hcz13_12 := cz12_ BK331; have hcz13_13 := cz13_ BK331; have hcz13_14 := cz14_ BK331; have hcz13_15 := cz15_ BK331; have hcz13_16 := cz16_ BK331; have hcz13_17 := cz17_ BK331; have hcz13_18 := cz18_ BK331; have hcz13_19 := cz19_ BK331; have hcz13_20 := cz20_ BK331; have hcz13_21 := cz21_ BK331; have hcz13_22 := cz22_ BK331; have hcz13_23 := cz23_ BK331; have hcz13_24 := cz24_ BK331; have hcz13_25 := cz25_ BK331; have hcz13_26 := cz26_ BK331) | (go_at_call 52; (with_reducible refine (impl_keepRules.calls (w := _) (h := A7.out)).mono ?_); rintro e w14 ⟨rfl, hb⟩; replace BK331 := am_ (lb_ BK331 hb); replace HB := am_ (below_step (bb1_ HB GE331) hb); (try clear hb); (try clear hb2); (try clear hk); (try clear hi)))
    go_ret
    exact ⟨ew_, bb1_ HB GE331⟩
   ·replace c6 := Bool.eq_false_iff.mpr c6
    subst c6
    have H1 : (some false) = some r := by rw [if_neg (show ¬ (false = true) by decide)] at H; exact H
    clear H
    have H := H1
    clear H1
    obtain rfl := Option.some.inj H
    go_enter Tryz.func28, Tryz.ntmps28
    go_wp2_with (first | ((with_reducible refine gate_dst (N := 1) rfl ?_); refine bx_ (cs := #[.int .i64 a0_0, .int .i64 a0_1, .int .i64 a0_2, .int .i64 a0_3, .int .i64 a0_4, .bool a0_5, .int .i64 a0_6, .int .i64 a0_7, .int .i64 a0_8, .int .i64 a0_9, .bool a0_10, .string a0_11, .int .i64 a0_12, .bool true, .int .i64 a0_14, .int .i64 a0_15, .int .i64 a0_16, .int .i64 a0_17, .int .i64 a0_18, .bool a0_19, .int .i64 a0_20, .int .i64 a0_21, .int .i64 a0_22, .int .i64 a0_23, .bool a0_24, .string a0_25, .int .i64 a0_26]) (t := 44) ?_; intro gb331 hg w15 hbox hb; have BK331 := am_ (hbox); have GW331 := gz_ hg HB; have GE331 := gz_ hg HB; replace HB := am_ (bt_ HB hb); clear hb hbox hg; have hcz16_0 := cz0_ BK331; have hcz16_1 := cz1_ BK331; have hcz16_2 := cz2_ BK331; have hcz16_3 := cz3_ BK331; have hcz16_4 := cz4_ BK331; have hcz16_5 := cz5_ BK331; have hcz16_6 := cz6_ BK331; have hcz16_7 := cz7_ BK331; have hcz16_8 := cz8_ BK331; have hcz16_9 := cz9_ BK331; have hcz16_10 := cz10_ BK331; have hcz16_11 := cz11_ BK331; have hcz16_12 := cz12_ BK331; have hcz16_13 := cz13_ BK331; have hcz16_14 := cz14_ BK331; have hcz16_15 := cz15_ BK331; have hcz16_16 := cz16_ BK331; have hcz16_17 := cz17_ BK331; have hcz16_18 := cz18_ BK331; have hcz16_19 := cz19_ BK331; have hcz16_20 := cz20_ BK331; have hcz16_21 := cz21_ BK331; have hcz16_22 := cz22_ BK331; have hcz16_23 := cz23_ BK331; have hcz16_24 := cz24_ BK331; have hcz16_25 := cz25_ BK331; have hcz16_26 := cz26_ BK331) | ((with_reducible refine gate_callee (f := 51) rfl ?_); refine goesL_ (some 5) rfl rfl Tryz.func51 (by kernel_rfl) rfl #[.agg #[.int .i64 a0_0, .int .i64 a0_1, .int .i64 a0_2, .int .i64 a0_3, .int .i64 a0_4, .bool a0_5, .int .i64 a0_6, .int .i64 a0_7, .int .i64 a0_8, .int .i64 a0_9, .bool a0_10, .string a0_11, .int .i64 a0_12]] rfl args_ ?_; (with_reducible refine (impl_IsHand.calls (w := _) (h := A2.out)).mono ?_); rintro e w17 ⟨rfl, hb⟩; refine ⟨_, rfl, ?_⟩; replace BK331 := am_ (lb_ BK331 hb); replace HB := am_ (below_step (bb1_ HB GE331) hb); (try clear hb); (try clear hb2); (try clear hk); (try clear hi); have hcz18_0 := cz0_ BK331; have hcz18_1 := cz1_ BK331; have hcz18_2 := cz2_ BK331; have hcz18_3 := cz3_ BK331; have hcz18_4 := cz4_ BK331; have hcz18_5 := cz5_ BK331; have hcz18_6 := cz6_ BK331; have hcz18_7 := cz7_ BK331; have hcz18_8 := cz8_ BK331; have hcz18_9 := cz9_ BK331; have hcz18_10 := cz10_ BK331; have hcz18_11 := cz11_ BK331; have hcz18_12 := cz12_ BK331; have hcz18_13 := cz13_ BK331; have hcz18_14 := cz14_ BK331; have hcz18_15 := cz15_ BK331; have hcz18_16 := cz16_ BK331; have hcz18_17 := cz17_ BK331; have hcz18_18 := cz18_ BK331; have hcz18_19 := cz19_ BK331; have hcz18_20 := cz20_ BK331; have hcz18_21 := cz21_ BK331; have hcz18_22 := cz22_ BK331; have hcz18_23 := cz23_ BK331; have hcz18_24 := cz24_ BK331; have hcz18_25 := cz25_ BK331; have hcz18_26 := cz26_ BK331) | ((with_reducible refine gate_callee (f := 51) rfl ?_); refine goesL_ (some 16) rfl rfl Tryz.func51 (by kernel_rfl) rfl #[.agg #[.int .i64 a0_14, .int .i64 a0_15, .int .i64 a0_16, .int .i64 a0_17, .int .i64 a0_18, .bool a0_19, .int .i64 a0_20, .int .i64 a0_21, .int .i64 a0_22, .int .i64 a0_23, .bool a0_24, .string a0_25, .int .i64 a0_26]] rfl args_ ?_; (with_reducible refine (impl_IsHand.calls (w := _) (h := A5.out)).mono ?_); rintro e w19 ⟨rfl, hb⟩; refine ⟨_, rfl, ?_⟩; replace BK331 := am_ (lb_ BK331 hb); replace HB := am_ (below_step (bb1_ HB GE331) hb); clear hb))
    go_ret
    exact ⟨ew_, bb1_ HB GE331⟩
  ·replace c4 := Bool.eq_false_iff.mpr c4
   subst c4
   have H1 : (some ((a0_14 == 0 && (a0_15 == 0 && (a0_16 == 0 && (a0_17 == 0 && (a0_18 == 0 && (!a0_19)))))) && ((a0_20 == 0 && (a0_21 == 0)) && ((a0_22 == 0 && (a0_23 == 0 && (!a0_24))) && ((a0_25.toList == ([] : List UInt8) && (a0_26 == 0))))))) = some r := by rw [if_neg (show ¬ (false = true) by decide)] at H; exact H
   clear H
   have H := H1
   clear H1
   obtain rfl := Option.some.inj H
   go_enter Tryz.func28, Tryz.ntmps28
   go_wp2_with (first | ((with_reducible refine gate_dst (N := 1) rfl ?_); refine bx_ (cs := #[.int .i64 a0_0, .int .i64 a0_1, .int .i64 a0_2, .int .i64 a0_3, .int .i64 a0_4, .bool a0_5, .int .i64 a0_6, .int .i64 a0_7, .int .i64 a0_8, .int .i64 a0_9, .bool a0_10, .string a0_11, .int .i64 a0_12, .bool false, .int .i64 a0_14, .int .i64 a0_15, .int .i64 a0_16, .int .i64 a0_17, .int .i64 a0_18, .bool a0_19, .int .i64 a0_20, .int .i64 a0_21, .int .i64 a0_22, .int .i64 a0_23, .bool a0_24, .string a0_25, .int .i64 a0_26]) (t := 44) ?_; intro gb331 hg w20 hbox hb; have BK331 := am_ (hbox); have GW331 := gz_ hg HB; have GE331 := gz_ hg HB; replace HB := am_ (bt_ HB hb); clear hb hbox hg; have hcz21_0 := cz0_ BK331; have hcz21_1 := cz1_ BK331; have hcz21_2 := cz2_ BK331; have hcz21_3 := cz3_ BK331; have hcz21_4 := cz4_ BK331; have hcz21_5 := cz5_ BK331; have hcz21_6 := cz6_ BK331; have hcz21_7 := cz7_ BK331; have hcz21_8 := cz8_ BK331; have hcz21_9 := cz9_ BK331; have hcz21_10 := cz10_ BK331; have hcz21_11 := cz11_ BK331; have hcz21_12 := cz12_ BK331; have hcz21_13 := cz13_ BK331; have hcz21_14 := cz14_ BK331; have hcz21_15 := cz15_ BK331; have hcz21_16 := cz16_ BK331; have hcz21_17 := cz17_ BK331; have hcz21_18 := cz18_ BK331; have hcz21_19 := cz19_ BK331; have hcz21_20 := cz20_ BK331; have hcz21_21 := cz21_ BK331; have hcz21_22 := cz22_ BK331; have hcz21_23 := cz23_ BK331; have hcz21_24 := cz24_ BK331; have hcz21_25 := cz25_ BK331; have hcz21_26 := cz26_ BK331) | ((with_reducible refine gate_callee (f := 51) rfl ?_); refine goesL_ (some 5) rfl rfl Tryz.func51 (by kernel_rfl) rfl #[.agg #[.int .i64 a0_0, .int .i64 a0_1, .int .i64 a0_2, .int .i64 a0_3, .int .i64 a0_4, .bool a0_5, .int .i64 a0_6, .int .i64 a0_7, .int .i64 a0_8, .int .i64 a0_9, .bool a0_10, .string a0_11, .int .i64 a0_12]] rfl args_ ?_; (with_reducible refine (impl_IsHand.calls (w := _) (h := A2.out)).mono ?_); rintro e w22 ⟨rfl, hb⟩; refine ⟨_, rfl, ?_⟩; replace BK331 := am_ (lb_ BK331 hb); replace HB := am_ (below_step (bb1_ HB GE331) hb); (try clear hb); (try clear hb2); (try clear hk); (try clear hi); have hcz23_0 := cz0_ BK331; have hcz23_1 := cz1_ BK331; have hcz23_2 := cz2_ BK331; have hcz23_3 := cz3_ BK331; have hcz23_4 := cz4_ BK331; have hcz23_5 := cz5_ BK331; have hcz23_6 := cz6_ BK331; have hcz23_7 := cz7_ BK331; have hcz23_8 := cz8_ BK331; have hcz23_9 := cz9_ BK331; have hcz23_10 := cz10_ BK331; have hcz23_11 := cz11_ BK331; have hcz23_12 := cz12_ BK331; have hcz23_13 := cz13_ BK331; have hcz23_14 := cz14_ BK331; have hcz23_15 := cz15_ BK331; have hcz23_16 := cz16_ BK331; have hcz23_17 := cz17_ BK331; have hcz23_18 := cz18_ BK331; have hcz23_19 := cz19_ BK331; have hcz23_20 := cz20_ BK331; have hcz23_21 := cz21_ BK331; have hcz23_22 := cz22_ BK331; have hcz23_23 := cz23_ BK331; have hcz23_24 := cz24_ BK331; have hcz23_25 := cz25_ BK331; have hcz23_26 := cz26_ BK331))
   go_ret
   exact ⟨ew_, bb1_ HB GE331⟩
 ·replace c3 := Bool.eq_false_iff.mpr c3
  subst c3
  have H1 : (some false) = some r := by rw [if_neg (show ¬ (false = true) by decide)] at H; exact H
  clear H
  have H := H1
  clear H1
  obtain rfl := Option.some.inj H
  go_enter Tryz.func28, Tryz.ntmps28
  go_wp2_with (first | ((with_reducible refine gate_dst (N := 1) rfl ?_); refine bx_ (cs := #[.int .i64 a0_0, .int .i64 a0_1, .int .i64 a0_2, .int .i64 a0_3, .int .i64 a0_4, .bool a0_5, .int .i64 a0_6, .int .i64 a0_7, .int .i64 a0_8, .int .i64 a0_9, .bool a0_10, .string a0_11, .int .i64 a0_12, .bool a0_13, .int .i64 a0_14, .int .i64 a0_15, .int .i64 a0_16, .int .i64 a0_17, .int .i64 a0_18, .bool a0_19, .int .i64 a0_20, .int .i64 a0_21, .int .i64 a0_22, .int .i64 a0_23, .bool a0_24, .string a0_25, .int .i64 a0_26]) (t := 44) ?_; intro gb331 hg w24 hbox hb; have BK331 := am_ (hbox); have GW331 := gz_ hg HB; have GE331 := gz_ hg HB; replace HB := am_ (bt_ HB hb); clear hb hbox hg; have hcz25_0 := cz0_ BK331; have hcz25_1 := cz1_ BK331; have hcz25_2 := cz2_ BK331; have hcz25_3 := cz3_ BK331; have hcz25_4 := cz4_ BK331; have hcz25_5 := cz5_ BK331; have hcz25_6 := cz6_ BK331; have hcz25_7 := cz7_ BK331; have hcz25_8 := cz8_ BK331; have hcz25_9 := cz9_ BK331; have hcz25_10 := cz10_ BK331; have hcz25_11 := cz11_ BK331; have hcz25_12 := cz12_ BK331; have hcz25_13 := cz13_ BK331; have hcz25_14 := cz14_ BK331; have hcz25_15 := cz15_ BK331; have hcz25_16 := cz16_ BK331; have hcz25_17 := cz17_ BK331; have hcz25_18 := cz18_ BK331; have hcz25_19 := cz19_ BK331; have hcz25_20 := cz20_ BK331; have hcz25_21 := cz21_ BK331; have hcz25_22 := cz22_ BK331; have hcz25_23 := cz23_ BK331; have hcz25_24 := cz24_ BK331; have hcz25_25 := cz25_ BK331; have hcz25_26 := cz26_ BK331) | ((with_reducible refine gate_callee (f := 51) rfl ?_); refine goesL_ (some 5) rfl rfl Tryz.func51 (by kernel_rfl) rfl #[.agg #[.int .i64 a0_0, .int .i64 a0_1, .int .i64 a0_2, .int .i64 a0_3, .int .i64 a0_4, .bool a0_5, .int .i64 a0_6, .int .i64 a0_7, .int .i64 a0_8, .int .i64 a0_9, .bool a0_10, .string a0_11, .int .i64 a0_12]] rfl args_ ?_; (with_reducible refine (impl_IsHand.calls (w := _) (h := A2.out)).mono ?_); rintro e w26 ⟨rfl, hb⟩; refine ⟨_, rfl, ?_⟩; replace BK331 := am_ (lb_ BK331 hb); replace HB := am_ (below_step (bb1_ HB GE331) hb); clear hb))
  go_ret
  exact ⟨ew_, bb1_ HB GE331⟩

end Go.Proofs.YtmbffgkejknfaaaGreatDoor.PA
