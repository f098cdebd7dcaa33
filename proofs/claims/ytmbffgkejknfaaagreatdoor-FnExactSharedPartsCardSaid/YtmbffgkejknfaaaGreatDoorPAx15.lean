-- Written by a program of this session (wip/tools/myprint.py). Not trusted: Lean checks it.
import Derived.Test.YtmbffgkejknfaaaGreatDoorSq4
import Derived.Test.YtmbffgkejknfaaaGreatDoorPAx0
import Derived.Test.YtmbffgkejknfaaaGreatDoorPAx1
import Derived.Test.YtmbffgkejknfaaaGreatDoorPAx2
import Derived.Test.YtmbffgkejknfaaaGreatDoorPAx13
import Derived.Test.YtmbffgkejknfaaaGreatDoorPAx14
namespace Go.Proofs.YtmbffgkejknfaaaGreatDoor.PA
open Go.RowKit Go.Proofs.YtmbffgkejknfaaaGreatDoorW.PrintWords Go.Proofs.YtmbffgkejknfaaaGreatDoorW.PrintLast Go.Proofs.YtmbffgkejknfaaaGreatDoorW.PrintMore
attribute [local go_sem] max2_int min2_int max_two min_two max_three min_three max_four min_four   -- for this text's walks alone
set_option linter.unusedVariables false
set_option linter.unusedSimpArgs false

attribute [local go_sem high] eqA37 eqA38
/-! ### impl_keepRules: function 52 -/
def impl_keepRules.j0 : Nat → Bool → Int → Int → Int → Int → Int → Bool → Int → Int → Int → Int → Bool → ByteArray → Int → Int → Int → Int → Int → Int → Bool → Int → Int → Int → Int → Bool → ByteArray → Int → Option (Bool)
 | 0, _, _, _, _, _, _, _, _, _, _, _, _, _, _, _, _, _, _, _, _, _, _, _, _, _, _, _ => none
 | k + 1, x5, x315000, x315001, x315002, x315003, x315004, x315005, x315006, x315007, x315008, x315009, x315010, x315011, x315012, x316000, x316001, x316002, x316003, x316004, x316005, x316006, x316007, x316008, x316009, x316010, x316011, x316012 => (impl_Move_all.f x316011 x316012).bind fun t323 => ((impl_Move_all.f x315011 x315012).bind fun t324 => (if t323.toList = t324.toList then ((impl_Hand_moves.f x315000 x315001 x315002 x315003 x315004 x315005 x315006 x315007 x315008 x315009 x315010 x315011 x315012).bind fun t325 => (if t325 = true then (if (x315000 == x316000 && (x315001 == x316001 && (x315002 == x316002 && (x315003 == x316003 && (x315004 == x316004 && (x315005 == x316005)))))) = true then (if x5 = true then (some true) else (some false)) else (some false)) else (some false))) else ((impl_Move_all.f x316011 x316012).bind fun t326 => ((impl_Move_mirrored.f x315011 x315012).bind fun bt327 => ((impl_Move_all.f bt327.1 bt327.2).bind fun t329 => ((impl_Hand_moves.f x315000 x315001 x315002 x315003 x315004 x315005 x315006 x315007 x315008 x315009 x315010 x315011 x315012).bind fun t330 => (if t330 = true then (if (x315000 == x316000 && (x315001 == x316001 && (x315002 == x316002 && (x315003 == x316003 && (x315004 == x316004 && (x315005 == x316005)))))) = true then (if x5 = true then (some (t326.toList == t329.toList)) else (some false)) else (some false)) else (some false))))))))
def impl_keepRules.f (k : Nat) (a0_0 a0_1 : Int) (a0_2 a0_3 a0_4 : Int) (a0_5 : Bool) (a0_6 a0_7 : Int) (a0_8 a0_9 : Int) (a0_10 : Bool) (a0_11 : ByteArray) (a0_12 a1_0 : Int) (a1_1 a1_2 : Int) (a1_3 a1_4 : Int) (a1_5 : Bool) (a1_6 a1_7 : Int) (a1_8 a1_9 : Int) (a1_10 : Bool) (a1_11 : ByteArray) (a1_12 : Int) : Option (Bool) := (impl_Hand_moves.f a1_0 a1_1 a1_2 a1_3 a1_4 a1_5 a1_6 a1_7 a1_8 a1_9 a1_10 a1_11 a1_12).bind fun t316 => (if t316 = true then (if (a1_6 == a0_6 && (a1_7 == a0_7)) = true then (impl_keepRules.j0 k true a0_0 a0_1 a0_2 a0_3 a0_4 a0_5 a0_6 a0_7 a0_8 a0_9 a0_10 a0_11 a0_12 a1_0 a1_1 a1_2 a1_3 a1_4 a1_5 a1_6 a1_7 a1_8 a1_9 a1_10 a1_11 a1_12) else ((impl_Orient_mirrored.f a0_6 a0_7).bind fun bt321 => (impl_keepRules.j0 k (a1_6 == bt321.1 && (a1_7 == bt321.2)) a0_0 a0_1 a0_2 a0_3 a0_4 a0_5 a0_6 a0_7 a0_8 a0_9 a0_10 a0_11 a0_12 a1_0 a1_1 a1_2 a1_3 a1_4 a1_5 a1_6 a1_7 a1_8 a1_9 a1_10 a1_11 a1_12))) else (if (a1_0 == a0_0 && (a1_1 == a0_1 && (a1_2 == a0_2 && (a1_3 == a0_3 && (a1_4 == a0_4 && (a1_5 == a0_5)))))) = true then (some true) else ((impl_PlainShapes.f k).bind fun t317 => ((impl_Shape_90.f k t317 a1_0 a1_1 a1_2 a1_3 a1_4 a1_5).bind fun t320 => (some t320)))))
theorem impl_keepRules.mono_l : ∀ k, (∀ y0 y1 y2 y3 y4 y5 y6 y7 y8 y9 y10 y11 y12 y13 y14 y15 y16 y17 y18 y19 y20 y21 y22 y23 y24 y25 y26, LeO (impl_keepRules.j0 k y0 y1 y2 y3 y4 y5 y6 y7 y8 y9 y10 y11 y12 y13 y14 y15 y16 y17 y18 y19 y20 y21 y22 y23 y24 y25 y26) (impl_keepRules.j0 (k + 1) y0 y1 y2 y3 y4 y5 y6 y7 y8 y9 y10 y11 y12 y13 y14 y15 y16 y17 y18 y19 y20 y21 y22 y23 y24 y25 y26))
 | 0 => fun _ _ _ _ _ _ _ _ _ _ _ _ _ _ _ _ _ _ _ _ _ _ _ _ _ _ _ r h => by simp [impl_keepRules.j0] at h
 | k + 1 => by
  have ih0 := impl_keepRules.mono_l k
  ·intro y0 y1 y2 y3 y4 y5 y6 y7 y8 y9 y10 y11 y12 y13 y14 y15 y16 y17 y18 y19 y20 y21 y22 y23 y24 y25 y26
   unfold impl_keepRules.j0
   repeat' first
   | (with_reducible exact ih0 _ _ _ _ _ _ _ _ _ _ _ _ _ _ _ _ _ _ _ _ _ _ _ _ _ _ _)
   | (with_reducible exact impl_PlainShapes.mono _)
   | (with_reducible exact impl_Shape_90.mono _ _ _ _ _ _ _ _)
   | (with_reducible exact LeO.refl _)
   | (with_reducible exact LeO.none _)
   | (with_reducible refine LeO.ite ?_ ?_)
   | (with_reducible refine LeO.bind ?_ (fun _ => ?_))
   | exact ih0 _ _ _ _ _ _ _ _ _ _ _ _ _ _ _ _ _ _ _ _ _ _ _ _ _ _ _
   | exact LeO.none _
   | refine LeO.ite ?_ ?_
   | refine LeO.bind ?_ (fun _ => ?_)
theorem impl_keepRules.mono : ∀ a0 a1 a2 a3 a4 a5 a6 a7 a8 a9 a10 a11 a12 a13 a14 a15 a16 a17 a18 a19 a20 a21 a22 a23 a24 a25 k, LeO (impl_keepRules.f k a0 a1 a2 a3 a4 a5 a6 a7 a8 a9 a10 a11 a12 a13 a14 a15 a16 a17 a18 a19 a20 a21 a22 a23 a24 a25) (impl_keepRules.f (k + 1) a0 a1 a2 a3 a4 a5 a6 a7 a8 a9 a10 a11 a12 a13 a14 a15 a16 a17 a18 a19 a20 a21 a22 a23 a24 a25) := by
 intro a0 a1 a2 a3 a4 a5 a6 a7 a8 a9 a10 a11 a12 a13 a14 a15 a16 a17 a18 a19 a20 a21 a22 a23 a24 a25 k
 have ih0 := impl_keepRules.mono_l k
 unfold impl_keepRules.f
 repeat' first
   | (with_reducible exact ih0 _ _ _ _ _ _ _ _ _ _ _ _ _ _ _ _ _ _ _ _ _ _ _ _ _ _ _)
   | (with_reducible exact impl_PlainShapes.mono _)
   | (with_reducible exact impl_Shape_90.mono _ _ _ _ _ _ _ _)
   | (with_reducible exact LeO.refl _)
   | (with_reducible exact LeO.none _)
   | (with_reducible refine LeO.ite ?_ ?_)
   | (with_reducible refine LeO.bind ?_ (fun _ => ?_))
   | exact ih0 _ _ _ _ _ _ _ _ _ _ _ _ _ _ _ _ _ _ _ _ _ _ _ _ _ _ _
   | exact LeO.none _
   | refine LeO.ite ?_ ?_
   | refine LeO.bind ?_ (fun _ => ?_)
def impl_keepRules.T2 : Bool × List (List Nat × List Nat) := (true, [([], []), ([0], [0]), ([], []), ([2], [2]), ([1, 3], [1, 3]), ([4], [4]), ([5, 5], [5]), ([5], [5]), ([7, 5], [5, 7]), ([6, 8, 6, 5], [5, 6, 8]), ([5, 9], [5, 9]), ([10, 9, 0, 1, 2, 3, 4, 5, 6, 7, 8, 9, 10], [10])])
def impl_keepRules.B2 : List Nat := [0, 1, 0, 4, 15, 31, 63, 63, 191, 511, 1023, 2047]
theorem impl_keepRules.tab2 : rtab .any (opsOf Tryz.f52 2) = impl_keepRules.T2 := by kernel_rfl
theorem impl_keepRules.bits2 : waitsOk impl_keepRules.T2.2 impl_keepRules.B2 = true := by kernel_rfl
def impl_keepRules.T3 : Bool × List (List Nat × List Nat) := (true, [([], []), ([0], [0]), ([], []), ([2], [2]), ([1, 3], [1, 3]), ([4], [4]), ([5], [5]), ([6, 5], [5, 6]), ([5], [5]), ([8, 5], [5, 8]), ([9, 5, 5], [5, 9]), ([7, 10, 5], [5, 7, 10]), ([5, 11], [5, 11]), ([12, 10, 0, 1, 2, 3, 4, 5, 6, 7, 8, 9, 10, 11, 12], [12])])
def impl_keepRules.B3 : List Nat := [0, 1, 0, 4, 15, 31, 63, 127, 63, 319, 831, 2047, 4095, 8191]
theorem impl_keepRules.tab3 : rtab .any (opsOf Tryz.f52 3) = impl_keepRules.T3 := by kernel_rfl
theorem impl_keepRules.bits3 : waitsOk impl_keepRules.T3.2 impl_keepRules.B3 = true := by kernel_rfl
def impl_keepRules.T4 : Bool × List (List Nat × List Nat) := (true, [([], []), ([0], [0]), ([1], [1]), ([], []), ([3], [3]), ([4, 2], [4]), ([2, 5], [2, 5]), ([6, 5], [6]), ([7], [7]), ([8, 7], [7, 8]), ([9, 7, 7], [7, 9]), ([7], [7]), ([11, 7], [7, 11]), ([12, 10, 7], [7, 12]), ([13, 13, 7], [7, 13]), ([10, 14, 7], [7, 10, 14]), ([7, 15], [7, 15]), ([16, 14, 0, 1, 2, 3, 4, 5, 6, 7, 8, 9, 10, 11, 12, 13, 14, 15, 16], [16])])
def impl_keepRules.B4 : List Nat := [0, 1, 3, 0, 8, 31, 63, 127, 255, 511, 1023, 255, 2303, 8191, 16383, 32767, 65535, 131071]
theorem impl_keepRules.tab4 : rtab .any (opsOf Tryz.f52 4) = impl_keepRules.T4 := by kernel_rfl
theorem impl_keepRules.bits4 : waitsOk impl_keepRules.T4.2 impl_keepRules.B4 = true := by kernel_rfl
abbrev impl_keepRules.S0 (z0_ z1_ : Nat) (z2_ z3_ : Int) (z4_ z5_ : Int) (z6_ z7_ : Int) (z8_ z9_ : Int) (z10_ z11_ : Int) (z12_ z13_ : Int) (z14_ z15_ : Int) (z16_ z17_ : Int) (z18_ z19_ : Int) (z20_ z21_ : Int) (z22_ z23_ : Bool) (z24_ z25_ : Bool) (z26_ z27_ : ByteArray) : World → Prop := fun w' => w'.cell? ⟨z0_, 0, none⟩ = some (.int .i64 z2_) ∧ w'.cell? ⟨z0_, 1, none⟩ = some (.int .i64 z3_) ∧ w'.cell? ⟨z0_, 2, none⟩ = some (.int .i64 z4_) ∧ w'.cell? ⟨z0_, 3, none⟩ = some (.int .i64 z5_) ∧ w'.cell? ⟨z0_, 4, none⟩ = some (.int .i64 z6_) ∧ w'.cell? ⟨z0_, 5, none⟩ = some (.bool z22_) ∧ w'.cell? ⟨z0_, 6, none⟩ = some (.int .i64 z7_) ∧ w'.cell? ⟨z0_, 7, none⟩ = some (.int .i64 z8_) ∧ w'.cell? ⟨z0_, 8, none⟩ = some (.int .i64 z9_) ∧ w'.cell? ⟨z0_, 9, none⟩ = some (.int .i64 z10_) ∧ w'.cell? ⟨z0_, 10, none⟩ = some (.bool z23_) ∧ w'.cell? ⟨z0_, 11, none⟩ = some (.string z26_) ∧ w'.cell? ⟨z0_, 12, none⟩ = some (.int .i64 z11_) ∧ w'.cell? ⟨z1_, 0, none⟩ = some (.int .i64 z12_) ∧ w'.cell? ⟨z1_, 1, none⟩ = some (.int .i64 z13_) ∧ w'.cell? ⟨z1_, 2, none⟩ = some (.int .i64 z14_) ∧ w'.cell? ⟨z1_, 3, none⟩ = some (.int .i64 z15_) ∧ w'.cell? ⟨z1_, 4, none⟩ = some (.int .i64 z16_) ∧ w'.cell? ⟨z1_, 5, none⟩ = some (.bool z24_) ∧ w'.cell? ⟨z1_, 6, none⟩ = some (.int .i64 z17_) ∧ w'.cell? ⟨z1_, 7, none⟩ = some (.int .i64 z18_) ∧ w'.cell? ⟨z1_, 8, none⟩ = some (.int .i64 z19_) ∧ w'.cell? ⟨z1_, 9, none⟩ = some (.int .i64 z20_) ∧ w'.cell? ⟨z1_, 10, none⟩ = some (.bool z25_) ∧ w'.cell? ⟨z1_, 11, none⟩ = some (.string z27_) ∧ w'.cell? ⟨z1_, 12, none⟩ = some (.int .i64 z21_)
set_option maxHeartbeats 8000000 in
set_option maxRecDepth 100000 in
theorem impl_keepRules.calls (k : Nat) (a0_0 a0_1 : Int) (a0_2 a0_3 a0_4 : Int) (a0_5 : Bool) (a0_6 a0_7 : Int) (a0_8 a0_9 : Int) (a0_10 : Bool) (a0_11 : ByteArray) (a0_12 a1_0 : Int) (a1_1 a1_2 : Int) (a1_3 a1_4 : Int) (a1_5 : Bool) (a1_6 a1_7 : Int) (a1_8 a1_9 : Int) (a1_10 : Bool) (a1_11 : ByteArray) (a1_12 : Int) (r : Bool) (w : World) (h : impl_keepRules.f k a0_0 a0_1 a0_2 a0_3 a0_4 a0_5 a0_6 a0_7 a0_8 a0_9 a0_10 a0_11 a0_12 a1_0 a1_1 a1_2 a1_3 a1_4 a1_5 a1_6 a1_7 a1_8 a1_9 a1_10 a1_11 a1_12 = some r) :
  Calls Tryz.prog 52 #[.agg #[.int .i64 a0_0, .int .i64 a0_1, .int .i64 a0_2, .int .i64 a0_3, .int .i64 a0_4, .bool a0_5, .int .i64 a0_6, .int .i64 a0_7, .int .i64 a0_8, .int .i64 a0_9, .bool a0_10, .string a0_11, .int .i64 a0_12], .agg #[.int .i64 a1_0, .int .i64 a1_1, .int .i64 a1_2, .int .i64 a1_3, .int .i64 a1_4, .bool a1_5, .int .i64 a1_6, .int .i64 a1_7, .int .i64 a1_8, .int .i64 a1_9, .bool a1_10, .string a1_11, .int .i64 a1_12]] w fun e w' => e = .returned (.bool r) ∧ Below w.heap.size w w' := by
 have hu42 := Tryz.underlying42
 have hu37 := Tryz.underlying37
 have hu38 := Tryz.underlying38
 have hu40 := Tryz.underlying40
 have HB := am_ (Below.refl w.heap.size w)
 have H : ((impl_Hand_moves.f a1_0 a1_1 a1_2 a1_3 a1_4 a1_5 a1_6 a1_7 a1_8 a1_9 a1_10 a1_11 a1_12).bind fun t316 => (if t316 = true then (if (a1_6 == a0_6 && (a1_7 == a0_7)) = true then (impl_keepRules.j0 k true a0_0 a0_1 a0_2 a0_3 a0_4 a0_5 a0_6 a0_7 a0_8 a0_9 a0_10 a0_11 a0_12 a1_0 a1_1 a1_2 a1_3 a1_4 a1_5 a1_6 a1_7 a1_8 a1_9 a1_10 a1_11 a1_12) else ((impl_Orient_mirrored.f a0_6 a0_7).bind fun bt321 => (impl_keepRules.j0 k (a1_6 == bt321.1 && (a1_7 == bt321.2)) a0_0 a0_1 a0_2 a0_3 a0_4 a0_5 a0_6 a0_7 a0_8 a0_9 a0_10 a0_11 a0_12 a1_0 a1_1 a1_2 a1_3 a1_4 a1_5 a1_6 a1_7 a1_8 a1_9 a1_10 a1_11 a1_12))) else (if (a1_0 == a0_0 && (a1_1 == a0_1 && (a1_2 == a0_2 && (a1_3 == a0_3 && (a1_4 == a0_4 && (a1_5 == a0_5)))))) = true then (some true) else ((impl_PlainShapes.f k).bind fun t317 => ((impl_Shape_90.f k t317 a1_0 a1_1 a1_2 a1_3 a1_4 a1_5).bind fun t320 => (some t320)))))) = some r := h
 clear h
 replace H := Option.bind_eq_some_iff.mp H
 obtain ⟨t316, A30, H⟩ := H
 try dsimp only at H
 have A3 := Aside0.mk A30
 clear A30
 by_cases c4 : t316 = true
 ·subst c4
  have H1 : (if (a1_6 == a0_6 && (a1_7 == a0_7)) = true then (impl_keepRules.j0 k true a0_0 a0_1 a0_2 a0_3 a0_4 a0_5 a0_6 a0_7 a0_8 a0_9 a0_10 a0_11 a0_12 a1_0 a1_1 a1_2 a1_3 a1_4 a1_5 a1_6 a1_7 a1_8 a1_9 a1_10 a1_11 a1_12) else ((impl_Orient_mirrored.f a0_6 a0_7).bind fun bt321 => (impl_keepRules.j0 k (a1_6 == bt321.1 && (a1_7 == bt321.2)) a0_0 a0_1 a0_2 a0_3 a0_4 a0_5 a0_6 a0_7 a0_8 a0_9 a0_10 a0_11 a0_12 a1_0 a1_1 a1_2 a1_3 a1_4 a1_5 a1_6 a1_7 a1_8 a1_9 a1_10 a1_11 a1_12))) = some r := by rw [if_pos rfl] at H; exact H
  clear H
  have H := H1
  clear H1
  have HC5 := Aside0.mk H
  clear H
  go_enter Tryz.func52, Tryz.ntmps52
  go_upto_region 3 with (first | ((with_reducible refine gate_dst (N := 2) rfl ?_); refine bx_ (cs := #[.int .i64 a0_0, .int .i64 a0_1, .int .i64 a0_2, .int .i64 a0_3, .int .i64 a0_4, .bool a0_5, .int .i64 a0_6, .int .i64 a0_7, .int .i64 a0_8, .int .i64 a0_9, .bool a0_10, .string a0_11, .int .i64 a0_12]) (t := 42) ?_; intro gb314 hg w6 hbox hb; have BK314 := am_ (hbox); have GW314 := gz_ hg HB; have GE314 := gz_ hg HB; replace HB := am_ (bt_ HB hb); clear hb hbox hg) | ((with_reducible refine gate_dst (N := 3) rfl ?_); refine bx_ (cs := #[.int .i64 a1_0, .int .i64 a1_1, .int .i64 a1_2, .int .i64 a1_3, .int .i64 a1_4, .bool a1_5, .int .i64 a1_6, .int .i64 a1_7, .int .i64 a1_8, .int .i64 a1_9, .bool a1_10, .string a1_11, .int .i64 a1_12]) (t := 42) ?_; intro gb315 hg w7 hbox hb; have BK315 := am_ (hbox); have GW315 := gy_ hg (bb1_ HB GE314); have GE315 := gy_ hg (bb1_ HB GE314); replace HB := am_ (below_step (bb1_ HB GE314) hb); have NB314_315 := nl_ hg BK314; have NB315_314 := ng_ hg BK314; replace BK314 := am_ (lb_ BK314 hb); clear hb hbox hg; have hnb8 := NB315_314.out; have hnc8 := NB314_315.out; have hcz9_0 := cz0_ BK315; have hcz9_1 := cz1_ BK315; have hcz9_2 := cz2_ BK315; have hcz9_3 := cz3_ BK315; have hcz9_4 := cz4_ BK315; have hcz9_5 := cz5_ BK315; have hcz9_6 := cz6_ BK315; have hcz9_7 := cz7_ BK315; have hcz9_8 := cz8_ BK315; have hcz9_9 := cz9_ BK315; have hcz9_10 := cz10_ BK315; have hcz9_11 := cz11_ BK315; have hcz9_12 := cz12_ BK315) | ((with_reducible refine gate_callee (f := 89) rfl ?_); refine goesL_ (some 8) rfl rfl Tryz.func89 (by kernel_rfl) rfl #[.agg #[.int .i64 a1_0, .int .i64 a1_1, .int .i64 a1_2, .int .i64 a1_3, .int .i64 a1_4, .bool a1_5, .int .i64 a1_6, .int .i64 a1_7, .int .i64 a1_8, .int .i64 a1_9, .bool a1_10, .string a1_11, .int .i64 a1_12]] rfl args_ ?_; (with_reducible refine (impl_Hand_moves.calls (w := _) (h := A3.out)).mono ?_); rintro e w10 ⟨rfl, hb⟩; refine ⟨_, rfl, ?_⟩; replace BK314 := am_ (lb_ BK314 hb); replace BK315 := am_ (lb_ BK315 hb); replace HB := am_ (below_step (bb2_ HB GE314 GE315) hb); clear hb))
  (try simp only [Act.put, sA_, sB_, sC_])
  go_cut [5] (fun v5 wc => ∃ (kq : Nat) (x5_4 : Bool), v5 = .bool x5_4 ∧ Aside0 (impl_keepRules.j0 kq x5_4 a0_0 a0_1 a0_2 a0_3 a0_4 a0_5 a0_6 a0_7 a0_8 a0_9 a0_10 a0_11 a0_12 a1_0 a1_1 a1_2 a1_3 a1_4 a1_5 a1_6 a1_7 a1_8 a1_9 a1_10 a1_11 a1_12 = some r) ∧ Aside0 (kq ≤ k) ∧ Aside0 (wc.heap[gb314]? = some (.cells #[.int .i64 a0_0, .int .i64 a0_1, .int .i64 a0_2, .int .i64 a0_3, .int .i64 a0_4, .bool a0_5, .int .i64 a0_6, .int .i64 a0_7, .int .i64 a0_8, .int .i64 a0_9, .bool a0_10, .string a0_11, .int .i64 a0_12] 42 (0, 0))) ∧ Aside0 (wc.heap[gb315]? = some (.cells #[.int .i64 a1_0, .int .i64 a1_1, .int .i64 a1_2, .int .i64 a1_3, .int .i64 a1_4, .bool a1_5, .int .i64 a1_6, .int .i64 a1_7, .int .i64 a1_8, .int .i64 a1_9, .bool a1_10, .string a1_11, .int .i64 a1_12] 42 (0, 0))) ∧ Aside0 (Below w.heap.size w wc))
  case first =>
   have H := HC5.out
   clear HC5
   by_cases c11 : (a1_6 == a0_6 && (a1_7 == a0_7)) = true
   ·rw [if_pos c11] at H
    have c11b0 : (a1_6 == a0_6 && (a1_7 == a0_7)) = true := c11
    (try (have c11b1 : decide (a1_6 = a0_6 && (a1_7 == a0_7)) = true := by simpa using c11))
    (try (have c11b2 : (a1_6 == a0_6 && (a1_7 == a0_7)) = true := by simpa using c11))
    clear c11
    (first | rw [c11b0] | (simp only [i64_w, i32_w]; rw [c11b0]) | skip)
    have H' := Aside0.mk H
    clear H
    try go_wp2
    replace BK314 := am_ (blk_drew BK314.out)
    replace BK315 := am_ (blk_drew BK315.out)
    replace HB := am_ (below_drew1 HB.out)
    refine start_ (n := 14) (S := impl_keepRules.S0 gb315 gb314 a1_0 a1_1 a1_2 a1_3 a1_4 a1_6 a1_7 a1_8 a1_9 a1_12 a0_0 a0_1 a0_2 a0_3 a0_4 a0_6 a0_7 a0_8 a0_9 a0_12 a1_5 a1_10 a0_5 a0_10 a1_11 a0_11) (ds := []) #[false, false, false, false, false, false, false, false, false, false, false, false, false, false] (by kernel_rfl) rfl rfl (by repeat' (first | apply And.intro | exact (blk_cell BK315.out _).trans rfl | exact (blk_cell BK314.out _).trans rfl)) (fun hHeld => ?_); refine with_tabW impl_keepRules.tab3 impl_keepRules.bits3 (fun HT_ HW_ => ?_)
    generalize w10.drew = w12 at BK314 BK315 HB hHeld ⊢
    refine pu2_ (i := 0) (N := some 21) #[true, false, false, false, false, false, false, false, false, false, false, false, false, false] rfl rfl ?_
    refine pu2_ (i := 2) (N := some 23) #[true, false, true, false, false, false, false, false, false, false, false, false, false, false] rfl rfl ?_
    refine tk2_ (i := 1) (N := some 22) #[true, true, true, false, false, false, false, false, false, false, false, false, false, false] rfl rfl hHeld ?_
    refine tk2_ (i := 3) (N := some 24) #[true, true, true, true, false, false, false, false, false, false, false, false, false, false] rfl rfl hHeld ?_
    refine pu2_ (i := 4) (N := some 25) #[true, true, true, true, true, false, false, false, false, false, false, false, false, false] rfl rfl ?_
    refine pu2_ (i := 5) (N := some 26) #[true, true, true, true, true, true, false, false, false, false, false, false, false, false] rfl rfl ?_
    refine pure_ (i := 6) (N := some 27) (v := undef) (a' := ?_) #[true, true, true, true, true, true, true, false, false, false, false, false, false, false] rfl rfl (any_of HT_.out (by kernel_rfl)) (fun _ _ _ h => h) (Or.inr ⟨by rfl, rfl⟩) ?_ ?_
    rotate_left
    ·simp only [Act.put, sA_, sB_, sC_, i64_w, i32_w]
     rfl
    refine pure_ (i := 7) (N := some 28) (v := undef) (a' := ?_) #[true, true, true, true, true, true, true, true, false, false, false, false, false, false] rfl rfl (any_of HT_.out (by kernel_rfl)) (fun _ _ _ h => h) (Or.inr ⟨by rfl, rfl⟩) ?_ ?_
    rotate_left
    ·simp only [Act.put, sA_, sB_, sC_, i64_w, i32_w]
     rfl
    refine pure_ (i := 8) (N := some 29) (v := undef) (a' := ?_) #[true, true, true, true, true, true, true, true, true, false, false, false, false, false] rfl rfl (any_of HT_.out (by kernel_rfl)) (fun _ _ _ h => h) (Or.inr ⟨by rfl, rfl⟩) ?_ ?_
    rotate_left
    ·simp only [Act.put, sA_, sB_, sC_, i64_w, i32_w]
     rfl
    refine pure_ (i := 9) (N := some 30) (v := undef) (a' := ?_) #[true, true, true, true, true, true, true, true, true, true, false, false, false, false] rfl rfl (any_of HT_.out (by kernel_rfl)) (fun _ _ _ h => h) (Or.inr ⟨by rfl, rfl⟩) ?_ ?_
    rotate_left
    ·simp only [Act.put, sA_, sB_, sC_, i64_w, i32_w]
     rfl
    refine pure_ (i := 10) (N := some 31) (v := undef) (a' := ?_) #[true, true, true, true, true, true, true, true, true, true, true, false, false, false] rfl rfl (any_of HT_.out (by kernel_rfl)) (fun _ _ _ h => h) (Or.inr ⟨by rfl, rfl⟩) ?_ ?_
    rotate_left
    ·simp only [Act.put, sA_, sB_, sC_, i64_w, i32_w]
     rfl
    refine pure_ (i := 11) (N := some 32) (v := undef) (a' := ?_) #[true, true, true, true, true, true, true, true, true, true, true, true, false, false] rfl rfl (any_of HT_.out (by kernel_rfl)) (fun _ _ _ h => h) (Or.inr ⟨by rfl, rfl⟩) ?_ ?_
    rotate_left
    ·simp only [Act.put, sA_, sB_, sC_, i64_w, i32_w]
     rfl
    refine pu2_ (i := 12) (N := some 33) #[true, true, true, true, true, true, true, true, true, true, true, true, true, false] rfl rfl ?_
    refine pu2_ (i := 13) (N := some 5) #[true, true, true, true, true, true, true, true, true, true, true, true, true, true] rfl rfl ?_
    refine done_ (done_of HT_.out (by kernel_rfl)) ?_
    try go_wp2
    go_meet
    case rel => exact ⟨_, (true), (by first | rfl | (simp; done) | (simp [*]; done)), H', ⟨by first | omega | exact Nat.le_refl _⟩, ⟨by (with_reducible repeat (first | apply lN_ | apply lD_ | apply lA_)); exact BK314.out⟩, ⟨by (with_reducible repeat (first | apply lN_ | apply lD_ | apply lA_)); exact BK315.out⟩, ⟨bb2_ HB GE314 GE315⟩⟩
   ·rw [if_neg c11] at H
    have c11b0 : (a1_6 == a0_6 && (a1_7 == a0_7)) = false := by simpa using c11
    (try (have c11b1 : decide (a1_6 = a0_6 && (a1_7 == a0_7)) = false := by simpa using c11))
    (try (have c11b2 : (a1_6 == a0_6 && (a1_7 == a0_7)) = false := by simpa using c11))
    (try (have c11b3 : ¬ (a1_6 = a0_6 && (a1_7 == a0_7)) := by simpa using c11))
    clear c11
    (first | rw [c11b0] | (simp only [i64_w, i32_w]; rw [c11b0]) | skip)
    replace H := Option.bind_eq_some_iff.mp H
    obtain ⟨⟨t321, t322⟩, A130, H⟩ := H
    try dsimp only at H
    have A13 := Aside0.mk A130
    clear A130
    have H' := Aside0.mk H
    clear H
    try go_wp2
    replace BK314 := am_ (blk_drew BK314.out)
    replace BK315 := am_ (blk_drew BK315.out)
    replace HB := am_ (below_drew1 HB.out)
    refine start_ (n := 14) (S := impl_keepRules.S0 gb315 gb314 a1_0 a1_1 a1_2 a1_3 a1_4 a1_6 a1_7 a1_8 a1_9 a1_12 a0_0 a0_1 a0_2 a0_3 a0_4 a0_6 a0_7 a0_8 a0_9 a0_12 a1_5 a1_10 a0_5 a0_10 a1_11 a0_11) (ds := []) #[false, false, false, false, false, false, false, false, false, false, false, false, false, false] (by kernel_rfl) rfl rfl (by repeat' (first | apply And.intro | exact (blk_cell BK315.out _).trans rfl | exact (blk_cell BK314.out _).trans rfl)) (fun hHeld => ?_); refine with_tabW impl_keepRules.tab3 impl_keepRules.bits3 (fun HT_ HW_ => ?_)
    generalize w10.drew = w14 at BK314 BK315 HB hHeld ⊢
    refine pu2_ (i := 0) (N := some 21) #[true, false, false, false, false, false, false, false, false, false, false, false, false, false] rfl rfl ?_
    refine pu2_ (i := 2) (N := some 23) #[true, false, true, false, false, false, false, false, false, false, false, false, false, false] rfl rfl ?_
    refine tk2_ (i := 1) (N := some 22) #[true, true, true, false, false, false, false, false, false, false, false, false, false, false] rfl rfl hHeld ?_
    refine tk2_ (i := 3) (N := some 24) #[true, true, true, true, false, false, false, false, false, false, false, false, false, false] rfl rfl hHeld ?_
    refine pu2_ (i := 4) (N := some 25) #[true, true, true, true, true, false, false, false, false, false, false, false, false, false] rfl rfl ?_
    refine pu2_ (i := 5) (N := some 26) #[true, true, true, true, true, true, false, false, false, false, false, false, false, false] rfl rfl ?_
    refine pu2_ (i := 6) (N := some 27) #[true, true, true, true, true, true, true, false, false, false, false, false, false, false] rfl rfl ?_
    refine pu2_ (i := 8) (N := some 29) #[true, true, true, true, true, true, true, false, true, false, false, false, false, false] rfl rfl ?_
    refine tk2_ (i := 7) (N := some 28) #[true, true, true, true, true, true, true, true, true, false, false, false, false, false] rfl rfl hHeld ?_
    refine tk2_ (i := 9) (N := some 30) #[true, true, true, true, true, true, true, true, true, true, false, false, false, false] rfl rfl hHeld ?_
    refine one_ (i := 10) (N := some 31) #[true, true, true, true, true, true, true, true, true, true, true, false, false, false] rfl rfl (one_of HT_.out (by kernel_rfl)) (by decide) (fun K hK => ?_)
    refine goes_ Tryz.func92 (by kernel_rfl) rfl #[.agg #[.int .i64 a0_6, .int .i64 a0_7]] (by rfl) rfl rfl args_ ?_
    with_reducible refine (impl_Orient_mirrored.calls a0_6 a0_7 t321 t322 _ A13.out).mono ?_
    rintro e w15 ⟨rfl, hb⟩
    refine ⟨_, rfl, ?_⟩
    replace BK314 := am_ (lb_ BK314 hb)
    replace BK315 := am_ (lb_ BK315 hb)
    replace HB := am_ (below_step (bb2_ HB GE314 GE315) hb)
    (try clear hb)
    (try clear hb2)
    (try clear hk)
    (try clear hi)
    refine hK.out _ _ (by repeat' (first | apply And.intro | exact (blk_cell BK315.out _).trans rfl | exact (blk_cell BK314.out _).trans rfl)) (fun hHeld => ?_)
    clear hK K
    refine nm2_ ?_
    refine pu2_ (i := 11) (N := some 32) #[true, true, true, true, true, true, true, true, true, true, true, true, false, false] rfl rfl ?_
    refine pu2_ (i := 12) (N := some 33) #[true, true, true, true, true, true, true, true, true, true, true, true, true, false] rfl rfl ?_
    refine pu2_ (i := 13) (N := some 5) #[true, true, true, true, true, true, true, true, true, true, true, true, true, true] rfl rfl ?_
    refine done_ (done_of HT_.out (by kernel_rfl)) ?_
    try go_wp2
    go_meet
    case rel => exact ⟨_, ((a1_6 == t321 && (a1_7 == t322))), (by first | rfl | (simp; done) | (simp [*]; done)), H', ⟨by first | omega | exact Nat.le_refl _⟩, ⟨by (with_reducible repeat (first | apply lN_ | apply lD_ | apply lA_)); exact BK314.out⟩, ⟨by (with_reducible repeat (first | apply lN_ | apply lD_ | apply lA_)); exact BK315.out⟩, ⟨bb2_ HB GE314 GE315⟩⟩
  case rest =>
   clear HC5
   try clear c1
   try clear p2
   try clear c4
   try clear c5
   try clear c8
   try clear c9
   try clear c11
   try clear c11b0
   try clear c11b1
   try clear c11b2
   try clear hcz9_0
   try clear hcz9_1
   try clear hcz9_10
   try clear hcz9_11
   try clear hcz9_12
   try clear hcz9_2
   try clear hcz9_3
   try clear hcz9_4
   try clear hcz9_5
   try clear hcz9_6
   try clear hcz9_7
   try clear hcz9_8
   try clear hcz9_9
   obtain ⟨kq, x5_4, rfl, HA, HJ4, BK314, BK315, HB⟩ := hcut
   cases kq with
   | zero => exact absurd HA.out (by simp [impl_keepRules.j0])
   | succ kj4 =>
    have H := HA.out
    clear HA
    simp only [impl_keepRules.j0] at H
    replace H := Option.bind_eq_some_iff.mp H
    obtain ⟨t323, A160, H⟩ := H
    try dsimp only at H
    have A16 := Aside0.mk A160
    clear A160
    replace H := Option.bind_eq_some_iff.mp H
    obtain ⟨t324, A170, H⟩ := H
    try dsimp only at H
    have A17 := Aside0.mk A170
    clear A170
    by_cases c18 : t323.toList = t324.toList
    ·rw [if_pos c18] at H
     have c18b0 : (t323.toList == t324.toList) = true := beq_iff_eq.mpr c18
     have c18b1 : (t323.toList != t324.toList) = false := bne_eq_false_iff_eq.mpr c18
     clear c18
     replace H := Option.bind_eq_some_iff.mp H
     obtain ⟨t325, A190, H⟩ := H
     try dsimp only at H
     have A19 := Aside0.mk A190
     clear A190
     by_cases c20 : t325 = true
     ·subst c20
      have H1 : (if (a0_0 == a1_0 && (a0_1 == a1_1 && (a0_2 == a1_2 && (a0_3 == a1_3 && (a0_4 == a1_4 && (a0_5 == a1_5)))))) = true then (if x5_4 = true then (some true) else (some false)) else (some false)) = some r := by rw [if_pos rfl] at H; exact H
      clear H
      have H := H1
      clear H1
      by_cases c21 : (a0_0 == a1_0 && (a0_1 == a1_1 && (a0_2 == a1_2 && (a0_3 == a1_3 && (a0_4 == a1_4 && (a0_5 == a1_5)))))) = true
      ·rw [if_pos c21] at H
       have c21b0 : (a0_0 == a1_0 && (a0_1 == a1_1 && (a0_2 == a1_2 && (a0_3 == a1_3 && (a0_4 == a1_4 && (a0_5 == a1_5)))))) = true := c21
       (try (have c21b1 : decide (a0_0 = a1_0 && (a0_1 == a1_1 && (a0_2 == a1_2 && (a0_3 == a1_3 && (a0_4 == a1_4 && (a0_5 == a1_5)))))) = true := by simpa using c21))
       (try (have c21b2 : (a0_0 == a1_0 && (a0_1 == a1_1 && (a0_2 == a1_2 && (a0_3 == a1_3 && (a0_4 == a1_4 && (a0_5 == a1_5)))))) = true := by simpa using c21))
       clear c21
       by_cases c22 : x5_4 = true
       ·subst c22
        have H1 : (some true) = some r := by rw [if_pos rfl] at H; exact H
        clear H
        have H := H1
        clear H1
        obtain rfl := Option.some.inj H
        try go_wp2
        replace BK314 := am_ (blk_drew BK314.out)
        replace BK315 := am_ (blk_drew BK315.out)
        replace HB := am_ (below_drew1 HB.out)
        refine start_ (n := 18) (S := impl_keepRules.S0 gb315 gb314 a1_0 a1_1 a1_2 a1_3 a1_4 a1_6 a1_7 a1_8 a1_9 a1_12 a0_0 a0_1 a0_2 a0_3 a0_4 a0_6 a0_7 a0_8 a0_9 a0_12 a1_5 a1_10 a0_5 a0_10 a1_11 a0_11) (ds := []) #[false, false, false, false, false, false, false, false, false, false, false, false, false, false, false, false, false, false] (by kernel_rfl) rfl rfl (by repeat' (first | apply And.intro | exact (blk_cell BK315.out _).trans rfl | exact (blk_cell BK314.out _).trans rfl)) (fun hHeld => ?_); refine with_tabW impl_keepRules.tab4 impl_keepRules.bits4 (fun HT_ HW_ => ?_)
        generalize wc.drew = w23 at BK314 BK315 HB hHeld ⊢
        refine pu2_ (i := 0) (N := some 34) #[true, false, false, false, false, false, false, false, false, false, false, false, false, false, false, false, false, false] rfl rfl ?_
        refine pu2_ (i := 3) (N := some 37) #[true, false, false, true, false, false, false, false, false, false, false, false, false, false, false, false, false, false] rfl rfl ?_
        refine tk2_ (i := 1) (N := some 35) #[true, true, false, true, false, false, false, false, false, false, false, false, false, false, false, false, false, false] rfl rfl hHeld ?_
        refine tk2_ (i := 4) (N := some 38) #[true, true, false, true, true, false, false, false, false, false, false, false, false, false, false, false, false, false] rfl rfl hHeld ?_
        refine one_ (i := 2) (N := some 36) #[true, true, true, true, true, false, false, false, false, false, false, false, false, false, false, false, false, false] rfl rfl (one_of HT_.out (by kernel_rfl)) (by decide) (fun K hK => ?_)
        refine goes_ Tryz.func93 (by kernel_rfl) rfl #[.agg #[.string a1_11, .int .i64 a1_12]] (by rfl) rfl rfl args_ ?_
        with_reducible refine (impl_Move_all.calls a1_11 a1_12 t323 _ A16.out).mono ?_
        rintro e w24 ⟨rfl, hb⟩
        refine ⟨_, rfl, ?_⟩
        replace BK314 := am_ (lb_ BK314 hb)
        replace BK315 := am_ (lb_ BK315 hb)
        replace HB := am_ (below_step (bb2_ HB GE314 GE315) hb)
        (try clear hb)
        (try clear hb2)
        (try clear hk)
        (try clear hi)
        refine hK.out _ _ (by repeat' (first | apply And.intro | exact (blk_cell BK315.out _).trans rfl | exact (blk_cell BK314.out _).trans rfl)) (fun hHeld => ?_)
        clear hK K
        refine nm2_ ?_
        refine one_ (i := 5) (N := some 39) #[true, true, true, true, true, true, false, false, false, false, false, false, false, false, false, false, false, false] rfl rfl (one_of HT_.out (by kernel_rfl)) (by decide) (fun K hK => ?_)
        refine goes_ Tryz.func93 (by kernel_rfl) rfl #[.agg #[.string a0_11, .int .i64 a0_12]] (by rfl) rfl rfl args_ ?_
        with_reducible refine (impl_Move_all.calls a0_11 a0_12 t324 _ A17.out).mono ?_
        rintro e w25 ⟨rfl, hb⟩
        refine ⟨_, rfl, ?_⟩
        replace BK314 := am_ (lb_ BK314 hb)
        replace BK315 := am_ (lb_ BK315 hb)
        replace HB := am_ (below_step (bb2_ HB GE314 GE315) hb)
        (try clear hb)
        (try clear hb2)
        (try clear hk)
        (try clear hi)
        refine hK.out _ _ (by repeat' (first | apply And.intro | exact (blk_cell BK315.out _).trans rfl | exact (blk_cell BK314.out _).trans rfl)) (fun hHeld => ?_)
        clear hK K
        refine nm2_ ?_
        refine pu2_ (i := 6) (N := some 40) #[true, true, true, true, true, true, true, false, false, false, false, false, false, false, false, false, false, false] rfl rfl ?_
        refine pu2_ (i := 7) (N := some 41) #[true, true, true, true, true, true, true, true, false, false, false, false, false, false, false, false, false, false] rfl rfl ?_
        refine pure_ (i := 8) (N := some 42) (v := undef) (a' := ?_) #[true, true, true, true, true, true, true, true, true, false, false, false, false, false, false, false, false, false] rfl rfl (any_of HT_.out (by kernel_rfl)) (fun _ _ _ h => h) (Or.inr ⟨by rfl, rfl⟩) ?_ ?_
        rotate_left
        ·simp only [Act.put, sA_, sB_, sC_, i64_w, i32_w]
         rfl
        refine pure_ (i := 9) (N := some 43) (v := undef) (a' := ?_) #[true, true, true, true, true, true, true, true, true, true, false, false, false, false, false, false, false, false] rfl rfl (any_of HT_.out (by kernel_rfl)) (fun _ _ _ h => h) (Or.inr ⟨by rfl, rfl⟩) ?_ ?_
        rotate_left
        ·simp only [Act.put, sA_, sB_, sC_, i64_w, i32_w]
         rfl
        refine pure_ (i := 10) (N := some 44) (v := undef) (a' := ?_) #[true, true, true, true, true, true, true, true, true, true, true, false, false, false, false, false, false, false] rfl rfl (any_of HT_.out (by kernel_rfl)) (fun _ _ _ h => h) (Or.inr ⟨by rfl, rfl⟩) ?_ ?_
        rotate_left
        ·simp only [Act.put, sA_, sB_, sC_, i64_w, i32_w]
         rfl
        refine pure_ (i := 11) (N := some 45) (v := undef) (a' := ?_) #[true, true, true, true, true, true, true, true, true, true, true, true, false, false, false, false, false, false] rfl rfl (any_of HT_.out (by kernel_rfl)) (fun _ _ _ h => h) (Or.inr ⟨by rfl, rfl⟩) ?_ ?_
        rotate_left
        ·simp only [Act.put, sA_, sB_, sC_, i64_w, i32_w]
         rfl
        refine pure_ (i := 12) (N := some 46) (v := undef) (a' := ?_) #[true, true, true, true, true, true, true, true, true, true, true, true, true, false, false, false, false, false] rfl rfl (any_of HT_.out (by kernel_rfl)) (fun _ _ _ h => h) (Or.inr ⟨by rfl, rfl⟩) ?_ ?_
        rotate_left
        ·simp only [Act.put, sA_, sB_, sC_, i64_w, i32_w]
         rfl
        refine pure_ (i := 13) (N := some 47) (v := undef) (a' := ?_) #[true, true, true, true, true, true, true, true, true, true, true, true, true, true, false, false, false, false] rfl rfl (any_of HT_.out (by kernel_rfl)) (fun _ _ _ h => h) (Or.inr ⟨by rfl, rfl⟩) ?_ ?_
        rotate_left
        ·simp only [Act.put, sA_, sB_, sC_, i64_w, i32_w]
         rfl
        refine pure_ (i := 14) (N := some 48) (v := undef) (a' := ?_) #[true, true, true, true, true, true, true, true, true, true, true, true, true, true, true, false, false, false] rfl rfl (any_of HT_.out (by kernel_rfl)) (fun _ _ _ h => h) (Or.inr ⟨by rfl, rfl⟩) ?_ ?_
        rotate_left
        ·simp only [Act.put, sA_, sB_, sC_, i64_w, i32_w]
         rfl
        refine pure_ (i := 15) (N := some 49) (v := undef) (a' := ?_) #[true, true, true, true, true, true, true, true, true, true, true, true, true, true, true, true, false, false] rfl rfl (any_of HT_.out (by kernel_rfl)) (fun _ _ _ h => h) (Or.inr ⟨by rfl, rfl⟩) ?_ ?_
        rotate_left
        ·simp only [Act.put, sA_, sB_, sC_, i64_w, i32_w]
         rfl
        refine pu2_ (i := 16) (N := some 50) #[true, true, true, true, true, true, true, true, true, true, true, true, true, true, true, true, true, false] rfl rfl ?_
        refine pu2_ (i := 17) (N := some 6) #[true, true, true, true, true, true, true, true, true, true, true, true, true, true, true, true, true, true] rfl rfl ?_
        refine done_ (done_of HT_.out (by kernel_rfl)) ?_
        have hnb26 := NB314_315.out
        have hnc26 := NB315_314.out
        have hcz27_0 := cz0_ BK314
        have hcz27_1 := cz1_ BK314
        have hcz27_2 := cz2_ BK314
        have hcz27_3 := cz3_ BK314
        have hcz27_4 := cz4_ BK314
        have hcz27_5 := cz5_ BK314
        have hcz27_6 := cz6_ BK314
        have hcz27_7 := cz7_ BK314
        have hcz27_8 := cz8_ BK314
        have hcz27_9 := cz9_ BK314
        have hcz27_10 := cz10_ BK314
        have hcz27_11 := cz11_ BK314
        have hcz27_12 := cz12_ BK314
        try go_wp2_with (first | ((with_reducible refine gate_callee (f := 89) rfl ?_); refine goesL_ (some 52) rfl rfl Tryz.func89 (by kernel_rfl) rfl #[.agg #[.int .i64 a0_0, .int .i64 a0_1, .int .i64 a0_2, .int .i64 a0_3, .int .i64 a0_4, .bool a0_5, .int .i64 a0_6, .int .i64 a0_7, .int .i64 a0_8, .int .i64 a0_9, .bool a0_10, .string a0_11, .int .i64 a0_12]] rfl args_ ?_; (with_reducible refine (impl_Hand_moves.calls (w := _) (h := A19.out)).mono ?_); rintro e w28 ⟨rfl, hb⟩; refine ⟨_, rfl, ?_⟩; replace BK314 := am_ (lb_ BK314 hb); replace BK315 := am_ (lb_ BK315 hb); replace HB := am_ (below_step (bb2_ HB GE314 GE315) hb); (try clear hb); (try clear hb2); (try clear hk); (try clear hi); have hcz29_0 := cz0_ BK314; have hcz29_1 := cz1_ BK314; have hcz29_2 := cz2_ BK314; have hcz29_3 := cz3_ BK314; have hcz29_4 := cz4_ BK314; have hcz29_5 := cz5_ BK314; have hcz29_6 := cz6_ BK314; have hcz29_7 := cz7_ BK314; have hcz29_8 := cz8_ BK314; have hcz29_9 := cz9_ BK314; have hcz29_10 := cz10_ BK314; have hcz29_11 := cz11_ BK314; have hcz29_12 := cz12_ BK314; have hcz30_0 := cz0_ BK315; have hcz30_1 := cz1_ BK315; have hcz30_2 := cz2_ BK315; have hcz30_3 := cz3_ BK315; have hcz30_4 := cz4_ BK315; have hcz30_5 := cz5_ BK315; have hcz30_6 := cz6_ BK315; have hcz30_7 := cz7_ BK315; have hcz30_8 := cz8_ BK315; have hcz30_9 := cz9_ BK315; have hcz30_10 := cz10_ BK315; have hcz30_11 := cz11_ BK315; have hcz30_12 := cz12_ BK315))
        go_ret
        exact ⟨ew_, bb2_ HB GE314 GE315⟩
       ·replace c22 := Bool.eq_false_iff.mpr c22
        subst c22
        have H1 : (some false) = some r := by rw [if_neg (show ¬ (false = true) by decide)] at H; exact H
        clear H
        have H := H1
        clear H1
        obtain rfl := Option.some.inj H
        try go_wp2
        replace BK314 := am_ (blk_drew BK314.out)
        replace BK315 := am_ (blk_drew BK315.out)
        replace HB := am_ (below_drew1 HB.out)
        refine start_ (n := 18) (S := impl_keepRules.S0 gb315 gb314 a1_0 a1_1 a1_2 a1_3 a1_4 a1_6 a1_7 a1_8 a1_9 a1_12 a0_0 a0_1 a0_2 a0_3 a0_4 a0_6 a0_7 a0_8 a0_9 a0_12 a1_5 a1_10 a0_5 a0_10 a1_11 a0_11) (ds := []) #[false, false, false, false, false, false, false, false, false, false, false, false, false, false, false, false, false, false] (by kernel_rfl) rfl rfl (by repeat' (first | apply And.intro | exact (blk_cell BK315.out _).trans rfl | exact (blk_cell BK314.out _).trans rfl)) (fun hHeld => ?_); refine with_tabW impl_keepRules.tab4 impl_keepRules.bits4 (fun HT_ HW_ => ?_)
        generalize wc.drew = w31 at BK314 BK315 HB hHeld ⊢
        refine pu2_ (i := 0) (N := some 34) #[true, false, false, false, false, false, false, false, false, false, false, false, false, false, false, false, false, false] rfl rfl ?_
        refine pu2_ (i := 3) (N := some 37) #[true, false, false, true, false, false, false, false, false, false, false, false, false, false, false, false, false, false] rfl rfl ?_
        refine tk2_ (i := 1) (N := some 35) #[true, true, false, true, false, false, false, false, false, false, false, false, false, false, false, false, false, false] rfl rfl hHeld ?_
        refine tk2_ (i := 4) (N := some 38) #[true, true, false, true, true, false, false, false, false, false, false, false, false, false, false, false, false, false] rfl rfl hHeld ?_
        refine one_ (i := 2) (N := some 36) #[true, true, true, true, true, false, false, false, false, false, false, false, false, false, false, false, false, false] rfl rfl (one_of HT_.out (by kernel_rfl)) (by decide) (fun K hK => ?_)
        refine goes_ Tryz.func93 (by kernel_rfl) rfl #[.agg #[.string a1_11, .int .i64 a1_12]] (by rfl) rfl rfl args_ ?_
        with_reducible refine (impl_Move_all.calls a1_11 a1_12 t323 _ A16.out).mono ?_
        rintro e w32 ⟨rfl, hb⟩
        refine ⟨_, rfl, ?_⟩
        replace BK314 := am_ (lb_ BK314 hb)
        replace BK315 := am_ (lb_ BK315 hb)
        replace HB := am_ (below_step (bb2_ HB GE314 GE315) hb)
        (try clear hb)
        (try clear hb2)
        (try clear hk)
        (try clear hi)
        refine hK.out _ _ (by repeat' (first | apply And.intro | exact (blk_cell BK315.out _).trans rfl | exact (blk_cell BK314.out _).trans rfl)) (fun hHeld => ?_)
        clear hK K
        refine nm2_ ?_
        refine one_ (i := 5) (N := some 39) #[true, true, true, true, true, true, false, false, false, false, false, false, false, false, false, false, false, false] rfl rfl (one_of HT_.out (by kernel_rfl)) (by decide) (fun K hK => ?_)
        refine goes_ Tryz.func93 (by kernel_rfl) rfl #[.agg #[.string a0_11, .int .i64 a0_12]] (by rfl) rfl rfl args_ ?_
        with_reducible refine (impl_Move_all.calls a0_11 a0_12 t324 _ A17.out).mono ?_
        rintro e w33 ⟨rfl, hb⟩
        refine ⟨_, rfl, ?_⟩
        replace BK314 := am_ (lb_ BK314 hb)
        replace BK315 := am_ (lb_ BK315 hb)
        replace HB := am_ (below_step (bb2_ HB GE314 GE315) hb)
        (try clear hb)
        (try clear hb2)
        (try clear hk)
        (try clear hi)
        refine hK.out _ _ (by repeat' (first | apply And.intro | exact (blk_cell BK315.out _).trans rfl | exact (blk_cell BK314.out _).trans rfl)) (fun hHeld => ?_)
        clear hK K
        refine nm2_ ?_
        refine pu2_ (i := 6) (N := some 40) #[true, true, true, true, true, true, true, false, false, false, false, false, false, false, false, false, false, false] rfl rfl ?_
        refine pu2_ (i := 7) (N := some 41) #[true, true, true, true, true, true, true, true, false, false, false, false, false, false, false, false, false, false] rfl rfl ?_
        refine pure_ (i := 8) (N := some 42) (v := undef) (a' := ?_) #[true, true, true, true, true, true, true, true, true, false, false, false, false, false, false, false, false, false] rfl rfl (any_of HT_.out (by kernel_rfl)) (fun _ _ _ h => h) (Or.inr ⟨by rfl, rfl⟩) ?_ ?_
        rotate_left
        ·simp only [Act.put, sA_, sB_, sC_, i64_w, i32_w]
         rfl
        refine pure_ (i := 9) (N := some 43) (v := undef) (a' := ?_) #[true, true, true, true, true, true, true, true, true, true, false, false, false, false, false, false, false, false] rfl rfl (any_of HT_.out (by kernel_rfl)) (fun _ _ _ h => h) (Or.inr ⟨by rfl, rfl⟩) ?_ ?_
        rotate_left
        ·simp only [Act.put, sA_, sB_, sC_, i64_w, i32_w]
         rfl
        refine pure_ (i := 10) (N := some 44) (v := undef) (a' := ?_) #[true, true, true, true, true, true, true, true, true, true, true, false, false, false, false, false, false, false] rfl rfl (any_of HT_.out (by kernel_rfl)) (fun _ _ _ h => h) (Or.inr ⟨by rfl, rfl⟩) ?_ ?_
        rotate_left
        ·simp only [Act.put, sA_, sB_, sC_, i64_w, i32_w]
         rfl
        refine pure_ (i := 11) (N := some 45) (v := undef) (a' := ?_) #[true, true, true, true, true, true, true, true, true, true, true, true, false, false, false, false, false, false] rfl rfl (any_of HT_.out (by kernel_rfl)) (fun _ _ _ h => h) (Or.inr ⟨by rfl, rfl⟩) ?_ ?_
        rotate_left
        ·simp only [Act.put, sA_, sB_, sC_, i64_w, i32_w]
         rfl
        refine pure_ (i := 12) (N := some 46) (v := undef) (a' := ?_) #[true, true, true, true, true, true, true, true, true, true, true, true, true, false, false, false, false, false] rfl rfl (any_of HT_.out (by kernel_rfl)) (fun _ _ _ h => h) (Or.inr ⟨by rfl, rfl⟩) ?_ ?_
        rotate_left
        ·simp only [Act.put, sA_, sB_, sC_, i64_w, i32_w]
         rfl
        refine pure_ (i := 13) (N := some 47) (v := undef) (a' := ?_) #[true, true, true, true, true, true, true, true, true, true, true, true, true, true, false, false, false, false] rfl rfl (any_of HT_.out (by kernel_rfl)) (fun _ _ _ h => h) (Or.inr ⟨by rfl, rfl⟩) ?_ ?_
        rotate_left
        ·simp only [Act.put, sA_, sB_, sC_, i64_w, i32_w]
         rfl
        refine pure_ (i := 14) (N := some 48) (v := undef) (a' := ?_) #[true, true, true, true, true, true, true, true, true, true, true, true, true, true, true, false, false, false] rfl rfl (any_of HT_.out (by kernel_rfl)) (fun _ _ _ h => h) (Or.inr ⟨by rfl, rfl⟩) ?_ ?_
        rotate_left
        ·simp only [Act.put, sA_, sB_, sC_, i64_w, i32_w]
         rfl
        refine pure_ (i := 15) (N := some 49) (v := undef) (a' := ?_) #[true, true, true, true, true, true, true, true, true, true, true, true, true, true, true, true, false, false] rfl rfl (any_of HT_.out (by kernel_rfl)) (fun _ _ _ h => h) (Or.inr ⟨by rfl, rfl⟩) ?_ ?_
        rotate_left
        ·simp only [Act.put, sA_, sB_, sC_, i64_w, i32_w]
         rfl
        refine pu2_ (i := 16) (N := some 50) #[true, true, true, true, true, true, true, true, true, true, true, true, true, true, true, true, true, false] rfl rfl ?_
        refine pu2_ (i := 17) (N := some 6) #[true, true, true, true, true, true, true, true, true, true, true, true, true, true, true, true, true, true] rfl rfl ?_
        refine done_ (done_of HT_.out (by kernel_rfl)) ?_
        have hnb34 := NB314_315.out
        have hnc34 := NB315_314.out
        have hcz35_0 := cz0_ BK314
        have hcz35_1 := cz1_ BK314
        have hcz35_2 := cz2_ BK314
        have hcz35_3 := cz3_ BK314
        have hcz35_4 := cz4_ BK314
        have hcz35_5 := cz5_ BK314
        have hcz35_6 := cz6_ BK314
        have hcz35_7 := cz7_ BK314
        have hcz35_8 := cz8_ BK314
        have hcz35_9 := cz9_ BK314
        have hcz35_10 := cz10_ BK314
        have hcz35_11 := cz11_ BK314
        have hcz35_12 := cz12_ BK314
        try go_wp2_with (first | ((with_reducible refine gate_callee (f := 89) rfl ?_); refine goesL_ (some 52) rfl rfl Tryz.func89 (by kernel_rfl) rfl #[.agg #[.int .i64 a0_0, .int .i64 a0_1, .int .i64 a0_2, .int .i64 a0_3, .int .i64 a0_4, .bool a0_5, .int .i64 a0_6, .int .i64 a0_7, .int .i64 a0_8, .int .i64 a0_9, .bool a0_10, .string a0_11, .int .i64 a0_12]] rfl args_ ?_; (with_reducible refine (impl_Hand_moves.calls (w := _) (h := A19.out)).mono ?_); rintro e w36 ⟨rfl, hb⟩; refine ⟨_, rfl, ?_⟩; replace BK314 := am_ (lb_ BK314 hb); replace BK315 := am_ (lb_ BK315 hb); replace HB := am_ (below_step (bb2_ HB GE314 GE315) hb); (try clear hb); (try clear hb2); (try clear hk); (try clear hi); have hcz37_0 := cz0_ BK314; have hcz37_1 := cz1_ BK314; have hcz37_2 := cz2_ BK314; have hcz37_3 := cz3_ BK314; have hcz37_4 := cz4_ BK314; have hcz37_5 := cz5_ BK314; have hcz37_6 := cz6_ BK314; have hcz37_7 := cz7_ BK314; have hcz37_8 := cz8_ BK314; have hcz37_9 := cz9_ BK314; have hcz37_10 := cz10_ BK314; have hcz37_11 := cz11_ BK314; have hcz37_12 := cz12_ BK314; have hcz38_0 := cz0_ BK315; have hcz38_1 := cz1_ BK315; have hcz38_2 := cz2_ BK315; have hcz38_3 := cz3_ BK315; have hcz38_4 := cz4_ BK315; have hcz38_5 := cz5_ BK315; have hcz38_6 := cz6_ BK315; have hcz38_7 := cz7_ BK315; have hcz38_8 := cz8_ BK315; have hcz38_9 := cz9_ BK315; have hcz38_10 := cz10_ BK315; have hcz38_11 := cz11_ BK315; have hcz38_12 := cz12_ BK315))
        go_ret
        exact ⟨ew_, bb2_ HB GE314 GE315⟩
      ·rw [if_neg c21] at H
       have c21b0 : (a0_0 == a1_0 && (a0_1 == a1_1 && (a0_2 == a1_2 && (a0_3 == a1_3 && (a0_4 == a1_4 && (a0_5 == a1_5)))))) = false := by simpa using c21
       (try (have c21b1 : decide (a0_0 = a1_0 && (a0_1 == a1_1 && (a0_2 == a1_2 && (a0_3 == a1_3 && (a0_4 == a1_4 && (a0_5 == a1_5)))))) = false := by simpa using c21))
       (try (have c21b2 : (a0_0 == a1_0 && (a0_1 == a1_1 && (a0_2 == a1_2 && (a0_3 == a1_3 && (a0_4 == a1_4 && (a0_5 == a1_5)))))) = false := by simpa using c21))
       (try (have c21b3 : ¬ (a0_0 = a1_0 && (a0_1 == a1_1 && (a0_2 == a1_2 && (a0_3 == a1_3 && (a0_4 == a1_4 && (a0_5 == a1_5)))))) := by simpa using c21))
       clear c21
       obtain rfl := Option.some.inj H
       try go_wp2
       replace BK314 := am_ (blk_drew BK314.out)
       replace BK315 := am_ (blk_drew BK315.out)
       replace HB := am_ (below_drew1 HB.out)
       refine start_ (n := 18) (S := impl_keepRules.S0 gb315 gb314 a1_0 a1_1 a1_2 a1_3 a1_4 a1_6 a1_7 a1_8 a1_9 a1_12 a0_0 a0_1 a0_2 a0_3 a0_4 a0_6 a0_7 a0_8 a0_9 a0_12 a1_5 a1_10 a0_5 a0_10 a1_11 a0_11) (ds := []) #[false, false, false, false, false, false, false, false, false, false, false, false, false, false, false, false, false, false] (by kernel_rfl) rfl rfl (by repeat' (first | apply And.intro | exact (blk_cell BK315.out _).trans rfl | exact (blk_cell BK314.out _).trans rfl)) (fun hHeld => ?_); refine with_tabW impl_keepRules.tab4 impl_keepRules.bits4 (fun HT_ HW_ => ?_)
       generalize wc.drew = w39 at BK314 BK315 HB hHeld ⊢
       refine pu2_ (i := 0) (N := some 34) #[true, false, false, false, false, false, false, false, false, false, false, false, false, false, false, false, false, false] rfl rfl ?_
       refine pu2_ (i := 3) (N := some 37) #[true, false, false, true, false, false, false, false, false, false, false, false, false, false, false, false, false, false] rfl rfl ?_
       refine tk2_ (i := 1) (N := some 35) #[true, true, false, true, false, false, false, false, false, false, false, false, false, false, false, false, false, false] rfl rfl hHeld ?_
       refine tk2_ (i := 4) (N := some 38) #[true, true, false, true, true, false, false, false, false, false, false, false, false, false, false, false, false, false] rfl rfl hHeld ?_
       refine one_ (i := 2) (N := some 36) #[true, true, true, true, true, false, false, false, false, false, false, false, false, false, false, false, false, false] rfl rfl (one_of HT_.out (by kernel_rfl)) (by decide) (fun K hK => ?_)
       refine goes_ Tryz.func93 (by kernel_rfl) rfl #[.agg #[.string a1_11, .int .i64 a1_12]] (by rfl) rfl rfl args_ ?_
       with_reducible refine (impl_Move_all.calls a1_11 a1_12 t323 _ A16.out).mono ?_
       rintro e w40 ⟨rfl, hb⟩
       refine ⟨_, rfl, ?_⟩
       replace BK314 := am_ (lb_ BK314 hb)
       replace BK315 := am_ (lb_ BK315 hb)
       replace HB := am_ (below_step (bb2_ HB GE314 GE315) hb)
       (try clear hb)
       (try clear hb2)
       (try clear hk)
       (try clear hi)
       refine hK.out _ _ (by repeat' (first | apply And.intro | exact (blk_cell BK315.out _).trans rfl | exact (blk_cell BK314.out _).trans rfl)) (fun hHeld => ?_)
       clear hK K
       refine nm2_ ?_
       refine one_ (i := 5) (N := some 39) #[true, true, true, true, true, true, false, false, false, false, false, false, false, false, false, false, false, false] rfl rfl (one_of HT_.out (by kernel_rfl)) (by decide) (fun K hK => ?_)
       refine goes_ Tryz.func93 (by kernel_rfl) rfl #[.agg #[.string a0_11, .int .i64 a0_12]] (by rfl) rfl rfl args_ ?_
       with_reducible refine (impl_Move_all.calls a0_11 a0_12 t324 _ A17.out).mono ?_
       rintro e w41 ⟨rfl, hb⟩
       refine ⟨_, rfl, ?_⟩
       replace BK314 := am_ (lb_ BK314 hb)
       replace BK315 := am_ (lb_ BK315 hb)
       replace HB := am_ (below_step (bb2_ HB GE314 GE315) hb)
       (try clear hb)
       (try clear hb2)
       (try clear hk)
       (try clear hi)
       refine hK.out _ _ (by repeat' (first | apply And.intro | exact (blk_cell BK315.out _).trans rfl | exact (blk_cell BK314.out _).trans rfl)) (fun hHeld => ?_)
       clear hK K
       refine nm2_ ?_
       refine pu2_ (i := 6) (N := some 40) #[true, true, true, true, true, true, true, false, false, false, false, false, false, false, false, false, false, false] rfl rfl ?_
       refine pu2_ (i := 7) (N := some 41) #[true, true, true, true, true, true, true, true, false, false, false, false, false, false, false, false, false, false] rfl rfl ?_
       refine pure_ (i := 8) (N := some 42) (v := undef) (a' := ?_) #[true, true, true, true, true, true, true, true, true, false, false, false, false, false, false, false, false, false] rfl rfl (any_of HT_.out (by kernel_rfl)) (fun _ _ _ h => h) (Or.inr ⟨by rfl, rfl⟩) ?_ ?_
       rotate_left
       ·simp only [Act.put, sA_, sB_, sC_, i64_w, i32_w]
        rfl
       refine pure_ (i := 9) (N := some 43) (v := undef) (a' := ?_) #[true, true, true, true, true, true, true, true, true, true, false, false, false, false, false, false, false, false] rfl rfl (any_of HT_.out (by kernel_rfl)) (fun _ _ _ h => h) (Or.inr ⟨by rfl, rfl⟩) ?_ ?_
       rotate_left
       ·simp only [Act.put, sA_, sB_, sC_, i64_w, i32_w]
        rfl
       refine pure_ (i := 10) (N := some 44) (v := undef) (a' := ?_) #[true, true, true, true, true, true, true, true, true, true, true, false, false, false, false, false, false, false] rfl rfl (any_of HT_.out (by kernel_rfl)) (fun _ _ _ h => h) (Or.inr ⟨by rfl, rfl⟩) ?_ ?_
       rotate_left
       ·simp only [Act.put, sA_, sB_, sC_, i64_w, i32_w]
        rfl
       refine pure_ (i := 11) (N := some 45) (v := undef) (a' := ?_) #[true, true, true, true, true, true, true, true, true, true, true, true, false, false, false, false, false, false] rfl rfl (any_of HT_.out (by kernel_rfl)) (fun _ _ _ h => h) (Or.inr ⟨by rfl, rfl⟩) ?_ ?_
       rotate_left
       ·simp only [Act.put, sA_, sB_, sC_, i64_w, i32_w]
        rfl
       refine pure_ (i := 12) (N := some 46) (v := undef) (a' := ?_) #[true, true, true, true, true, true, true, true, true, true, true, true, true, false, false, false, false, false] rfl rfl (any_of HT_.out (by kernel_rfl)) (fun _ _ _ h => h) (Or.inr ⟨by rfl, rfl⟩) ?_ ?_
       rotate_left
       ·simp only [Act.put, sA_, sB_, sC_, i64_w, i32_w]
        rfl
       refine pure_ (i := 13) (N := some 47) (v := undef) (a' := ?_) #[true, true, true, true, true, true, true, true, true, true, true, true, true, true, false, false, false, false] rfl rfl (any_of HT_.out (by kernel_rfl)) (fun _ _ _ h => h) (Or.inr ⟨by rfl, rfl⟩) ?_ ?_
       rotate_left
       ·simp only [Act.put, sA_, sB_, sC_, i64_w, i32_w]
        rfl
       refine pure_ (i := 14) (N := some 48) (v := undef) (a' := ?_) #[true, true, true, true, true, true, true, true, true, true, true, true, true, true, true, false, false, false] rfl rfl (any_of HT_.out (by kernel_rfl)) (fun _ _ _ h => h) (Or.inr ⟨by rfl, rfl⟩) ?_ ?_
       rotate_left
       ·simp only [Act.put, sA_, sB_, sC_, i64_w, i32_w]
        rfl
       refine pure_ (i := 15) (N := some 49) (v := undef) (a' := ?_) #[true, true, true, true, true, true, true, true, true, true, true, true, true, true, true, true, false, false] rfl rfl (any_of HT_.out (by kernel_rfl)) (fun _ _ _ h => h) (Or.inr ⟨by rfl, rfl⟩) ?_ ?_
       rotate_left
       ·simp only [Act.put, sA_, sB_, sC_, i64_w, i32_w]
        rfl
       refine pu2_ (i := 16) (N := some 50) #[true, true, true, true, true, true, true, true, true, true, true, true, true, true, true, true, true, false] rfl rfl ?_
       refine pu2_ (i := 17) (N := some 6) #[true, true, true, true, true, true, true, true, true, true, true, true, true, true, true, true, true, true] rfl rfl ?_
       refine done_ (done_of HT_.out (by kernel_rfl)) ?_
       have hnb42 := NB314_315.out
       have hnc42 := NB315_314.out
       have hcz43_0 := cz0_ BK314
       have hcz43_1 := cz1_ BK314
       have hcz43_2 := cz2_ BK314
       have hcz43_3 := cz3_ BK314
       have hcz43_4 := cz4_ BK314
       have hcz43_5 := cz5_ BK314
       have hcz43_6 := cz6_ BK314
       have hcz43_7 := cz7_ BK314
       have hcz43_8 := cz8_ BK314
       have hcz43_9 := cz9_ BK314
       have hcz43_10 := cz10_ BK314
       have hcz43_11 := cz11_ BK314
       have hcz43_12 := cz12_ BK314
       try go_wp2_with (first | ((with_reducible refine gate_callee (f := 89) rfl ?_); refine goesL_ (some 52) rfl rfl Tryz.func89 (by kernel_rfl) rfl #[.agg #[.int .i64 a0_0, .int .i64 a0_1, .int .i64 a0_2, .int .i64 a0_3, .int .i64 a0_4, .bool a0_5, .int .i64 a0_6, .int .i64 a0_7, .int .i64 a0_8, .int .i64 a0_9, .bool a0_10, .string a0_11, .int .i64 a0_12]] rfl args_ ?_; (with_reducible refine (impl_Hand_moves.calls (w := _) (h := A19.out)).mono ?_); rintro e w44 ⟨rfl, hb⟩; refine ⟨_, rfl, ?_⟩; replace BK314 := am_ (lb_ BK314 hb); replace BK315 := am_ (lb_ BK315 hb); replace HB := am_ (below_step (bb2_ HB GE314 GE315) hb); (try clear hb); (try clear hb2); (try clear hk); (try clear hi); have hcz45_0 := cz0_ BK314; have hcz45_1 := cz1_ BK314; have hcz45_2 := cz2_ BK314; have hcz45_3 := cz3_ BK314; have hcz45_4 := cz4_ BK314; have hcz45_5 := cz5_ BK314; have hcz45_6 := cz6_ BK314; have hcz45_7 := cz7_ BK314; have hcz45_8 := cz8_ BK314; have hcz45_9 := cz9_ BK314; have hcz45_10 := cz10_ BK314; have hcz45_11 := cz11_ BK314; have hcz45_12 := cz12_ BK314; have hcz46_0 := cz0_ BK315; have hcz46_1 := cz1_ BK315; have hcz46_2 := cz2_ BK315; have hcz46_3 := cz3_ BK315; have hcz46_4 := cz4_ BK315; have hcz46_5 := cz5_ BK315; have hcz46_6 := cz6_ BK315; have hcz46_7 := cz7_ BK315; have hcz46_8 := cz8_ BK315; have hcz46_9 := cz9_ BK315; have hcz46_10 := cz10_ BK315; have hcz46_11 := cz11_ BK315; have hcz46_12 := cz12_ BK315))
       go_ret
       exact ⟨ew_, bb2_ HB GE314 GE315⟩
     ·replace c20 := Bool.eq_false_iff.mpr c20
      subst c20
      have H1 : (some false) = some r := by rw [if_neg (show ¬ (false = true) by decide)] at H; exact H
      clear H
      have H := H1
      clear H1
      obtain rfl := Option.some.inj H
      try go_wp2
      replace BK314 := am_ (blk_drew BK314.out)
      replace BK315 := am_ (blk_drew BK315.out)
      replace HB := am_ (below_drew1 HB.out)
      refine start_ (n := 18) (S := impl_keepRules.S0 gb315 gb314 a1_0 a1_1 a1_2 a1_3 a1_4 a1_6 a1_7 a1_8 a1_9 a1_12 a0_0 a0_1 a0_2 a0_3 a0_4 a0_6 a0_7 a0_8 a0_9 a0_12 a1_5 a1_10 a0_5 a0_10 a1_11 a0_11) (ds := []) #[false, false, false, false, false, false, false, false, false, false, false, false, false, false, false, false, false, false] (by kernel_rfl) rfl rfl (by repeat' (first | apply And.intro | exact (blk_cell BK315.out _).trans rfl | exact (blk_cell BK314.out _).trans rfl)) (fun hHeld => ?_); refine with_tabW impl_keepRules.tab4 impl_keepRules.bits4 (fun HT_ HW_ => ?_)
      generalize wc.drew = w47 at BK314 BK315 HB hHeld ⊢
      refine pu2_ (i := 0) (N := some 34) #[true, false, false, false, false, false, false, false, false, false, false, false, false, false, false, false, false, false] rfl rfl ?_
      refine pu2_ (i := 3) (N := some 37) #[true, false, false, true, false, false, false, false, false, false, false, false, false, false, false, false, false, false] rfl rfl ?_
      refine tk2_ (i := 1) (N := some 35) #[true, true, false, true, false, false, false, false, false, false, false, false, false, false, false, false, false, false] rfl rfl hHeld ?_
      refine tk2_ (i := 4) (N := some 38) #[true, true, false, true, true, false, false, false, false, false, false, false, false, false, false, false, false, false] rfl rfl hHeld ?_
      refine one_ (i := 2) (N := some 36) #[true, true, true, true, true, false, false, false, false, false, false, false, false, false, false, false, false, false] rfl rfl (one_of HT_.out (by kernel_rfl)) (by decide) (fun K hK => ?_)
      refine goes_ Tryz.func93 (by kernel_rfl) rfl #[.agg #[.string a1_11, .int .i64 a1_12]] (by rfl) rfl rfl args_ ?_
      with_reducible refine (impl_Move_all.calls a1_11 a1_12 t323 _ A16.out).mono ?_
      rintro e w48 ⟨rfl, hb⟩
      refine ⟨_, rfl, ?_⟩
      replace BK314 := am_ (lb_ BK314 hb)
      replace BK315 := am_ (lb_ BK315 hb)
      replace HB := am_ (below_step (bb2_ HB GE314 GE315) hb)
      (try clear hb)
      (try clear hb2)
      (try clear hk)
      (try clear hi)
      refine hK.out _ _ (by repeat' (first | apply And.intro | exact (blk_cell BK315.out _).trans rfl | exact (blk_cell BK314.out _).trans rfl)) (fun hHeld => ?_)
      clear hK K
      refine nm2_ ?_
      refine one_ (i := 5) (N := some 39) #[true, true, true, true, true, true, false, false, false, false, false, false, false, false, false, false, false, false] rfl rfl (one_of HT_.out (by kernel_rfl)) (by decide) (fun K hK => ?_)
      refine goes_ Tryz.func93 (by kernel_rfl) rfl #[.agg #[.string a0_11, .int .i64 a0_12]] (by rfl) rfl rfl args_ ?_
      with_reducible refine (impl_Move_all.calls a0_11 a0_12 t324 _ A17.out).mono ?_
      rintro e w49 ⟨rfl, hb⟩
      refine ⟨_, rfl, ?_⟩
      replace BK314 := am_ (lb_ BK314 hb)
      replace BK315 := am_ (lb_ BK315 hb)
      replace HB := am_ (below_step (bb2_ HB GE314 GE315) hb)
      (try clear hb)
      (try clear hb2)
      (try clear hk)
      (try clear hi)
      refine hK.out _ _ (by repeat' (first | apply And.intro | exact (blk_cell BK315.out _).trans rfl | exact (blk_cell BK314.out _).trans rfl)) (fun hHeld => ?_)
      clear hK K
      refine nm2_ ?_
      refine pu2_ (i := 6) (N := some 40) #[true, true, true, true, true, true, true, false, false, false, false, false, false, false, false, false, false, false] rfl rfl ?_
      refine pu2_ (i := 7) (N := some 41) #[true, true, true, true, true, true, true, true, false, false, false, false, false, false, false, false, false, false] rfl rfl ?_
      refine pure_ (i := 8) (N := some 42) (v := undef) (a' := ?_) #[true, true, true, true, true, true, true, true, true, false, false, false, false, false, false, false, false, false] rfl rfl (any_of HT_.out (by kernel_rfl)) (fun _ _ _ h => h) (Or.inr ⟨by rfl, rfl⟩) ?_ ?_
      rotate_left
      ·simp only [Act.put, sA_, sB_, sC_, i64_w, i32_w]
       rfl
      refine pure_ (i := 9) (N := some 43) (v := undef) (a' := ?_) #[true, true, true, true, true, true, true, true, true, true, false, false, false, false, false, false, false, false] rfl rfl (any_of HT_.out (by kernel_rfl)) (fun _ _ _ h => h) (Or.inr ⟨by rfl, rfl⟩) ?_ ?_
      rotate_left
      ·simp only [Act.put, sA_, sB_, sC_, i64_w, i32_w]
       rfl
      refine pure_ (i := 10) (N := some 44) (v := undef) (a' := ?_) #[true, true, true, true, true, true, true, true, true, true, true, false, false, false, false, false, false, false] rfl rfl (any_of HT_.out (by kernel_rfl)) (fun _ _ _ h => h) (Or.inr ⟨by rfl, rfl⟩) ?_ ?_
      rotate_left
      ·simp only [Act.put, sA_, sB_, sC_, i64_w, i32_w]
       rfl
      refine pure_ (i := 11) (N := some 45) (v := undef) (a' := ?_) #[true, true, true, true, true, true, true, true, true, true, true, true, false, false, false, false, false, false] rfl rfl (any_of HT_.out (by kernel_rfl)) (fun _ _ _ h => h) (Or.inr ⟨by rfl, rfl⟩) ?_ ?_
      rotate_left
      ·simp only [Act.put, sA_, sB_, sC_, i64_w, i32_w]
       rfl
      refine pure_ (i := 12) (N := some 46) (v := undef) (a' := ?_) #[true, true, true, true, true, true, true, true, true, true, true, true, true, false, false, false, false, false] rfl rfl (any_of HT_.out (by kernel_rfl)) (fun _ _ _ h => h) (Or.inr ⟨by rfl, rfl⟩) ?_ ?_
      rotate_left
      ·simp only [Act.put, sA_, sB_, sC_, i64_w, i32_w]
       rfl
      refine pure_ (i := 13) (N := some 47) (v := undef) (a' := ?_) #[true, true, true, true, true, true, true, true, true, true, true, true, true, true, false, false, false, false] rfl rfl (any_of HT_.out (by kernel_rfl)) (fun _ _ _ h => h) (Or.inr ⟨by rfl, rfl⟩) ?_ ?_
      rotate_left
      ·simp only [Act.put, sA_, sB_, sC_, i64_w, i32_w]
       rfl
      refine pure_ (i := 14) (N := some 48) (v := undef) (a' := ?_) #[true, true, true, true, true, true, true, true, true, true, true, true, true, true, true, false, false, false] rfl rfl (any_of HT_.out (by kernel_rfl)) (fun _ _ _ h => h) (Or.inr ⟨by rfl, rfl⟩) ?_ ?_
      rotate_left
      ·simp only [Act.put, sA_, sB_, sC_, i64_w, i32_w]
       rfl
      refine pure_ (i := 15) (N := some 49) (v := undef) (a' := ?_) #[true, true, true, true, true, true, true, true, true, true, true, true, true, true, true, true, false, false] rfl rfl (any_of HT_.out (by kernel_rfl)) (fun _ _ _ h => h) (Or.inr ⟨by rfl, rfl⟩) ?_ ?_
      rotate_left
      ·simp only [Act.put, sA_, sB_, sC_, i64_w, i32_w]
       rfl
      refine pu2_ (i := 16) (N := some 50) #[true, true, true, true, true, true, true, true, true, true, true, true, true, true, true, true, true, false] rfl rfl ?_
      refine pu2_ (i := 17) (N := some 6) #[true, true, true, true, true, true, true, true, true, true, true, true, true, true, true, true, true, true] rfl rfl ?_
      refine done_ (done_of HT_.out (by kernel_rfl)) ?_
      have hnb50 := NB314_315.out
      have hnc50 := NB315_314.out
      have hcz51_0 := cz0_ BK314
      have hcz51_1 := cz1_ BK314
      have hcz51_2 := cz2_ BK314
      have hcz51_3 := cz3_ BK314
      have hcz51_4 := cz4_ BK314
      have hcz51_5 := cz5_ BK314
      have hcz51_6 := cz6_ BK314
      have hcz51_7 := cz7_ BK314
      have hcz51_8 := cz8_ BK314
      have hcz51_9 := cz9_ BK314
      have hcz51_10 := cz10_ BK314
      have hcz51_11 := cz11_ BK314
      have hcz51_12 := cz12_ BK314
      try go_wp2_with (first | ((with_reducible refine gate_callee (f := 89) rfl ?_); refine goesL_ (some 52) rfl rfl Tryz.func89 (by kernel_rfl) rfl #[.agg #[.int .i64 a0_0, .int .i64 a0_1, .int .i64 a0_2, .int .i64 a0_3, .int .i64 a0_4, .bool a0_5, .int .i64 a0_6, .int .i64 a0_7, .int .i64 a0_8, .int .i64 a0_9, .bool a0_10, .string a0_11, .int .i64 a0_12]] rfl args_ ?_; (with_reducible refine (impl_Hand_moves.calls (w := _) (h := A19.out)).mono ?_); rintro e w52 ⟨rfl, hb⟩; refine ⟨_, rfl, ?_⟩; replace BK314 := am_ (lb_ BK314 hb); replace BK315 := am_ (lb_ BK315 hb); replace HB := am_ (below_step (bb2_ HB GE314 GE315) hb); clear hb))
      go_ret
      exact ⟨ew_, bb2_ HB GE314 GE315⟩
    ·rw [if_neg c18] at H
     have c18b0 : (t323.toList == t324.toList) = false := beq_eq_false_iff_ne.mpr c18
     have c18b1 : (t323.toList != t324.toList) = true := bne_iff_ne.mpr c18
     replace H := Option.bind_eq_some_iff.mp H
     obtain ⟨t326, A530, H⟩ := H
     try dsimp only at H
     have A53 := Aside0.mk A530
     clear A530
     replace H := Option.bind_eq_some_iff.mp H
     obtain ⟨⟨t327, t328⟩, A540, H⟩ := H
     try dsimp only at H
     have A54 := Aside0.mk A540
     clear A540
     replace H := Option.bind_eq_some_iff.mp H
     obtain ⟨t329, A550, H⟩ := H
     try dsimp only at H
     have A55 := Aside0.mk A550
     clear A550
     replace H := Option.bind_eq_some_iff.mp H
     obtain ⟨t330, A560, H⟩ := H
     try dsimp only at H
     have A56 := Aside0.mk A560
     clear A560
     by_cases c57 : t330 = true
     ·subst c57
      have H1 : (if (a0_0 == a1_0 && (a0_1 == a1_1 && (a0_2 == a1_2 && (a0_3 == a1_3 && (a0_4 == a1_4 && (a0_5 == a1_5)))))) = true then (if x5_4 = true then (some (t326.toList == t329.toList)) else (some false)) else (some false)) = some r := by rw [if_pos rfl] at H; exact H
      clear H
      have H := H1
      clear H1
      by_cases c58 : (a0_0 == a1_0 && (a0_1 == a1_1 && (a0_2 == a1_2 && (a0_3 == a1_3 && (a0_4 == a1_4 && (a0_5 == a1_5)))))) = true
      ·rw [if_pos c58] at H
       have c58b0 : (a0_0 == a1_0 && (a0_1 == a1_1 && (a0_2 == a1_2 && (a0_3 == a1_3 && (a0_4 == a1_4 && (a0_5 == a1_5)))))) = true := c58
       (try (have c58b1 : decide (a0_0 = a1_0 && (a0_1 == a1_1 && (a0_2 == a1_2 && (a0_3 == a1_3 && (a0_4 == a1_4 && (a0_5 == a1_5)))))) = true := by simpa using c58))
       (try (have c58b2 : (a0_0 == a1_0 && (a0_1 == a1_1 && (a0_2 == a1_2 && (a0_3 == a1_3 && (a0_4 == a1_4 && (a0_5 == a1_5)))))) = true := by simpa using c58))
       clear c58
       by_cases c59 : x5_4 = true
       ·subst c59
        have H1 : (some (t326.toList == t329.toList)) = some r := by rw [if_pos rfl] at H; exact H
        clear H
        have H := H1
        clear H1
        obtain rfl := Option.some.inj H
        try go_wp2
        replace BK314 := am_ (blk_drew BK314.out)
        replace BK315 := am_ (blk_drew BK315.out)
        replace HB := am_ (below_drew1 HB.out)
        refine start_ (n := 18) (S := impl_keepRules.S0 gb315 gb314 a1_0 a1_1 a1_2 a1_3 a1_4 a1_6 a1_7 a1_8 a1_9 a1_12 a0_0 a0_1 a0_2 a0_3 a0_4 a0_6 a0_7 a0_8 a0_9 a0_12 a1_5 a1_10 a0_5 a0_10 a1_11 a0_11) (ds := []) #[false, false, false, false, false, false, false, false, false, false, false, false, false, false, false, false, false, false] (by kernel_rfl) rfl rfl (by repeat' (first | apply And.intro | exact (blk_cell BK315.out _).trans rfl | exact (blk_cell BK314.out _).trans rfl)) (fun hHeld => ?_); refine with_tabW impl_keepRules.tab4 impl_keepRules.bits4 (fun HT_ HW_ => ?_)
        generalize wc.drew = w60 at BK314 BK315 HB hHeld ⊢
        refine pu2_ (i := 0) (N := some 34) #[true, false, false, false, false, false, false, false, false, false, false, false, false, false, false, false, false, false] rfl rfl ?_
        refine pu2_ (i := 3) (N := some 37) #[true, false, false, true, false, false, false, false, false, false, false, false, false, false, false, false, false, false] rfl rfl ?_
        refine tk2_ (i := 1) (N := some 35) #[true, true, false, true, false, false, false, false, false, false, false, false, false, false, false, false, false, false] rfl rfl hHeld ?_
        refine tk2_ (i := 4) (N := some 38) #[true, true, false, true, true, false, false, false, false, false, false, false, false, false, false, false, false, false] rfl rfl hHeld ?_
        refine one_ (i := 2) (N := some 36) #[true, true, true, true, true, false, false, false, false, false, false, false, false, false, false, false, false, false] rfl rfl (one_of HT_.out (by kernel_rfl)) (by decide) (fun K hK => ?_)
        refine goes_ Tryz.func93 (by kernel_rfl) rfl #[.agg #[.string a1_11, .int .i64 a1_12]] (by rfl) rfl rfl args_ ?_
        with_reducible refine (impl_Move_all.calls a1_11 a1_12 t323 _ A16.out).mono ?_
        rintro e w61 ⟨rfl, hb⟩
        refine ⟨_, rfl, ?_⟩
        replace BK314 := am_ (lb_ BK314 hb)
        replace BK315 := am_ (lb_ BK315 hb)
        replace HB := am_ (below_step (bb2_ HB GE314 GE315) hb)
        (try clear hb)
        (try clear hb2)
        (try clear hk)
        (try clear hi)
        refine hK.out _ _ (by repeat' (first | apply And.intro | exact (blk_cell BK315.out _).trans rfl | exact (blk_cell BK314.out _).trans rfl)) (fun hHeld => ?_)
        clear hK K
        refine nm2_ ?_
        refine one_ (i := 5) (N := some 39) #[true, true, true, true, true, true, false, false, false, false, false, false, false, false, false, false, false, false] rfl rfl (one_of HT_.out (by kernel_rfl)) (by decide) (fun K hK => ?_)
        refine goes_ Tryz.func93 (by kernel_rfl) rfl #[.agg #[.string a0_11, .int .i64 a0_12]] (by rfl) rfl rfl args_ ?_
        with_reducible refine (impl_Move_all.calls a0_11 a0_12 t324 _ A17.out).mono ?_
        rintro e w62 ⟨rfl, hb⟩
        refine ⟨_, rfl, ?_⟩
        replace BK314 := am_ (lb_ BK314 hb)
        replace BK315 := am_ (lb_ BK315 hb)
        replace HB := am_ (below_step (bb2_ HB GE314 GE315) hb)
        (try clear hb)
        (try clear hb2)
        (try clear hk)
        (try clear hi)
        refine hK.out _ _ (by repeat' (first | apply And.intro | exact (blk_cell BK315.out _).trans rfl | exact (blk_cell BK314.out _).trans rfl)) (fun hHeld => ?_)
        clear hK K
        refine nm2_ ?_
        refine pu2_ (i := 6) (N := some 40) #[true, true, true, true, true, true, true, false, false, false, false, false, false, false, false, false, false, false] rfl rfl ?_
        refine pu2_ (i := 7) (N := some 41) #[true, true, true, true, true, true, true, true, false, false, false, false, false, false, false, false, false, false] rfl rfl ?_
        refine pu2_ (i := 8) (N := some 42) #[true, true, true, true, true, true, true, true, true, false, false, false, false, false, false, false, false, false] rfl rfl ?_
        refine pu2_ (i := 11) (N := some 45) #[true, true, true, true, true, true, true, true, true, false, false, true, false, false, false, false, false, false] rfl rfl ?_
        refine tk2_ (i := 9) (N := some 43) #[true, true, true, true, true, true, true, true, true, true, false, true, false, false, false, false, false, false] rfl rfl hHeld ?_
        refine tk2_ (i := 12) (N := some 46) #[true, true, true, true, true, true, true, true, true, true, false, true, true, false, false, false, false, false] rfl rfl hHeld ?_
        refine one_ (i := 10) (N := some 44) #[true, true, true, true, true, true, true, true, true, true, true, true, true, false, false, false, false, false] rfl rfl (one_of HT_.out (by kernel_rfl)) (by decide) (fun K hK => ?_)
        refine goes_ Tryz.func93 (by kernel_rfl) rfl #[.agg #[.string a1_11, .int .i64 a1_12]] (by rfl) rfl rfl args_ ?_
        with_reducible refine (impl_Move_all.calls a1_11 a1_12 t326 _ A53.out).mono ?_
        rintro e w63 ⟨rfl, hb⟩
        refine ⟨_, rfl, ?_⟩
        replace BK314 := am_ (lb_ BK314 hb)
        replace BK315 := am_ (lb_ BK315 hb)
        replace HB := am_ (below_step (bb2_ HB GE314 GE315) hb)
        (try clear hb)
        (try clear hb2)
        (try clear hk)
        (try clear hi)
        refine hK.out _ _ (by repeat' (first | apply And.intro | exact (blk_cell BK315.out _).trans rfl | exact (blk_cell BK314.out _).trans rfl)) (fun hHeld => ?_)
        clear hK K
        refine nm2_ ?_
        refine one_ (i := 13) (N := some 47) #[true, true, true, true, true, true, true, true, true, true, true, true, true, true, false, false, false, false] rfl rfl (one_of HT_.out (by kernel_rfl)) (by decide) (fun K hK => ?_)
        refine goes_ Tryz.func94 (by kernel_rfl) rfl #[.agg #[.string a0_11, .int .i64 a0_12]] (by rfl) rfl rfl args_ ?_
        with_reducible refine (impl_Move_mirrored.calls a0_11 a0_12 t327 t328 _ A54.out).mono ?_
        rintro e w64 ⟨rfl, hb⟩
        refine ⟨_, rfl, ?_⟩
        replace BK314 := am_ (lb_ BK314 hb)
        replace BK315 := am_ (lb_ BK315 hb)
        replace HB := am_ (below_step (bb2_ HB GE314 GE315) hb)
        (try clear hb)
        (try clear hb2)
        (try clear hk)
        (try clear hi)
        refine hK.out _ _ (by repeat' (first | apply And.intro | exact (blk_cell BK315.out _).trans rfl | exact (blk_cell BK314.out _).trans rfl)) (fun hHeld => ?_)
        clear hK K
        refine nm2_ ?_
        refine one_ (i := 14) (N := some 48) #[true, true, true, true, true, true, true, true, true, true, true, true, true, true, true, false, false, false] rfl rfl (one_of HT_.out (by kernel_rfl)) (by decide) (fun K hK => ?_)
        refine goes_ Tryz.func93 (by kernel_rfl) rfl #[.agg #[.string t327, .int .i64 t328]] (by rfl) rfl rfl args_ ?_
        with_reducible refine (impl_Move_all.calls t327 t328 t329 _ A55.out).mono ?_
        rintro e w65 ⟨rfl, hb⟩
        refine ⟨_, rfl, ?_⟩
        replace BK314 := am_ (lb_ BK314 hb)
        replace BK315 := am_ (lb_ BK315 hb)
        replace HB := am_ (below_step (bb2_ HB GE314 GE315) hb)
        (try clear hb)
        (try clear hb2)
        (try clear hk)
        (try clear hi)
        refine hK.out _ _ (by repeat' (first | apply And.intro | exact (blk_cell BK315.out _).trans rfl | exact (blk_cell BK314.out _).trans rfl)) (fun hHeld => ?_)
        clear hK K
        refine nm2_ ?_
        refine pu2_ (i := 15) (N := some 49) #[true, true, true, true, true, true, true, true, true, true, true, true, true, true, true, true, false, false] rfl rfl ?_
        refine pu2_ (i := 16) (N := some 50) #[true, true, true, true, true, true, true, true, true, true, true, true, true, true, true, true, true, false] rfl rfl ?_
        refine pu2_ (i := 17) (N := some 6) #[true, true, true, true, true, true, true, true, true, true, true, true, true, true, true, true, true, true] rfl rfl ?_
        refine done_ (done_of HT_.out (by kernel_rfl)) ?_
        have hnb66 := NB314_315.out
        have hnc66 := NB315_314.out
        have hcz67_0 := cz0_ BK314
        have hcz67_1 := cz1_ BK314
        have hcz67_2 := cz2_ BK314
        have hcz67_3 := cz3_ BK314
        have hcz67_4 := cz4_ BK314
        have hcz67_5 := cz5_ BK314
        have hcz67_6 := cz6_ BK314
        have hcz67_7 := cz7_ BK314
        have hcz67_8 := cz8_ BK314
        have hcz67_9 := cz9_ BK314
        have hcz67_10 := cz10_ BK314
        have hcz67_11 := cz11_ BK314
        have hcz67_12 := cz12_ BK314
        try go_wp2_with (first | ((with_reducible refine gate_callee (f := 89) rfl ?_); refine goesL_ (some 52) rfl rfl Tryz.func89 (by kernel_rfl) rfl #[.agg #[.int .i64 a0_0, .int .i64 a0_1, .int .i64 a0_2, .int .i64 a0_3, .int .i64 a0_4, .bool a0_5, .int .i64 a0_6, .int .i64 a0_7, .int .i64 a0_8, .int .i64 a0_9, .bool a0_10, .string a0_11, .int .i64 a0_12]] rfl args_ ?_; (with_reducible refine (impl_Hand_moves.calls (w := _) (h := A56.out)).mono ?_); rintro e w68 ⟨rfl, hb⟩; refine ⟨_, rfl, ?_⟩; replace BK314 := am_ (lb_ BK314 hb); replace BK315 := am_ (lb_ BK315 hb); replace HB := am_ (below_step (bb2_ HB GE314 GE315) hb); (try clear hb); (try clear hb2); (try clear hk); (try clear hi); have hcz69_0 := cz0_ BK314; have hcz69_1 := cz1_ BK314; have hcz69_2 := cz2_ BK314; have hcz69_3 := cz3_ BK314; have hcz69_4 := cz4_ BK314; have hcz69_5 := cz5_ BK314; have hcz69_6 := cz6_ BK314; have hcz69_7 := cz7_ BK314; have hcz69_8 := cz8_ BK314; have hcz69_9 := cz9_ BK314; have hcz69_10 := cz10_ BK314; have hcz69_11 := cz11_ BK314; have hcz69_12 := cz12_ BK314; have hcz70_0 := cz0_ BK315; have hcz70_1 := cz1_ BK315; have hcz70_2 := cz2_ BK315; have hcz70_3 := cz3_ BK315; have hcz70_4 := cz4_ BK315; have hcz70_5 := cz5_ BK315; have hcz70_6 := cz6_ BK315; have hcz70_7 := cz7_ BK315; have hcz70_8 := cz8_ BK315; have hcz70_9 := cz9_ BK315; have hcz70_10 := cz10_ BK315; have hcz70_11 := cz11_ BK315; have hcz70_12 := cz12_ BK315))
        go_ret
        exact ⟨ew_, bb2_ HB GE314 GE315⟩
       ·replace c59 := Bool.eq_false_iff.mpr c59
        subst c59
        have H1 : (some false) = some r := by rw [if_neg (show ¬ (false = true) by decide)] at H; exact H
        clear H
        have H := H1
        clear H1
        obtain rfl := Option.some.inj H
        try go_wp2
        replace BK314 := am_ (blk_drew BK314.out)
        replace BK315 := am_ (blk_drew BK315.out)
        replace HB := am_ (below_drew1 HB.out)
        refine start_ (n := 18) (S := impl_keepRules.S0 gb315 gb314 a1_0 a1_1 a1_2 a1_3 a1_4 a1_6 a1_7 a1_8 a1_9 a1_12 a0_0 a0_1 a0_2 a0_3 a0_4 a0_6 a0_7 a0_8 a0_9 a0_12 a1_5 a1_10 a0_5 a0_10 a1_11 a0_11) (ds := []) #[false, false, false, false, false, false, false, false, false, false, false, false, false, false, false, false, false, false] (by kernel_rfl) rfl rfl (by repeat' (first | apply And.intro | exact (blk_cell BK315.out _).trans rfl | exact (blk_cell BK314.out _).trans rfl)) (fun hHeld => ?_); refine with_tabW impl_keepRules.tab4 impl_keepRules.bits4 (fun HT_ HW_ => ?_)
        generalize wc.drew = w71 at BK314 BK315 HB hHeld ⊢
        refine pu2_ (i := 0) (N := some 34) #[true, false, false, false, false, false, false, false, false, false, false, false, false, false, false, false, false, false] rfl rfl ?_
        refine pu2_ (i := 3) (N := some 37) #[true, false, false, true, false, false, false, false, false, false, false, false, false, false, false, false, false, false] rfl rfl ?_
        refine tk2_ (i := 1) (N := some 35) #[true, true, false, true, false, false, false, false, false, false, false, false, false, false, false, false, false, false] rfl rfl hHeld ?_
        refine tk2_ (i := 4) (N := some 38) #[true, true, false, true, true, false, false, false, false, false, false, false, false, false, false, false, false, false] rfl rfl hHeld ?_
        refine one_ (i := 2) (N := some 36) #[true, true, true, true, true, false, false, false, false, false, false, false, false, false, false, false, false, false] rfl rfl (one_of HT_.out (by kernel_rfl)) (by decide) (fun K hK => ?_)
        refine goes_ Tryz.func93 (by kernel_rfl) rfl #[.agg #[.string a1_11, .int .i64 a1_12]] (by rfl) rfl rfl args_ ?_
        with_reducible refine (impl_Move_all.calls a1_11 a1_12 t323 _ A16.out).mono ?_
        rintro e w72 ⟨rfl, hb⟩
        refine ⟨_, rfl, ?_⟩
        replace BK314 := am_ (lb_ BK314 hb)
        replace BK315 := am_ (lb_ BK315 hb)
        replace HB := am_ (below_step (bb2_ HB GE314 GE315) hb)
        (try clear hb)
        (try clear hb2)
        (try clear hk)
        (try clear hi)
        refine hK.out _ _ (by repeat' (first | apply And.intro | exact (blk_cell BK315.out _).trans rfl | exact (blk_cell BK314.out _).trans rfl)) (fun hHeld => ?_)
        clear hK K
        refine nm2_ ?_
        refine one_ (i := 5) (N := some 39) #[true, true, true, true, true, true, false, false, false, false, false, false, false, false, false, false, false, false] rfl rfl (one_of HT_.out (by kernel_rfl)) (by decide) (fun K hK => ?_)
        refine goes_ Tryz.func93 (by kernel_rfl) rfl #[.agg #[.string a0_11, .int .i64 a0_12]] (by rfl) rfl rfl args_ ?_
        with_reducible refine (impl_Move_all.calls a0_11 a0_12 t324 _ A17.out).mono ?_
        rintro e w73 ⟨rfl, hb⟩
        refine ⟨_, rfl, ?_⟩
        replace BK314 := am_ (lb_ BK314 hb)
        replace BK315 := am_ (lb_ BK315 hb)
        replace HB := am_ (below_step (bb2_ HB GE314 GE315) hb)
        (try clear hb)
        (try clear hb2)
        (try clear hk)
        (try clear hi)
        refine hK.out _ _ (by repeat' (first | apply And.intro | exact (blk_cell BK315.out _).trans rfl | exact (blk_cell BK314.out _).trans rfl)) (fun hHeld => ?_)
        clear hK K
        refine nm2_ ?_
        refine pu2_ (i := 6) (N := some 40) #[true, true, true, true, true, true, true, false, false, false, false, false, false, false, false, false, false, false] rfl rfl ?_
        refine pu2_ (i := 7) (N := some 41) #[true, true, true, true, true, true, true, true, false, false, false, false, false, false, false, false, false, false] rfl rfl ?_
        refine pu2_ (i := 8) (N := some 42) #[true, true, true, true, true, true, true, true, true, false, false, false, false, false, false, false, false, false] rfl rfl ?_
        refine pu2_ (i := 11) (N := some 45) #[true, true, true, true, true, true, true, true, true, false, false, true, false, false, false, false, false, false] rfl rfl ?_
        refine tk2_ (i := 9) (N := some 43) #[true, true, true, true, true, true, true, true, true, true, false, true, false, false, false, false, false, false] rfl rfl hHeld ?_
        refine tk2_ (i := 12) (N := some 46) #[true, true, true, true, true, true, true, true, true, true, false, true, true, false, false, false, false, false] rfl rfl hHeld ?_
        refine one_ (i := 10) (N := some 44) #[true, true, true, true, true, true, true, true, true, true, true, true, true, false, false, false, false, false] rfl rfl (one_of HT_.out (by kernel_rfl)) (by decide) (fun K hK => ?_)
        refine goes_ Tryz.func93 (by kernel_rfl) rfl #[.agg #[.string a1_11, .int .i64 a1_12]] (by rfl) rfl rfl args_ ?_
        with_reducible refine (impl_Move_all.calls a1_11 a1_12 t326 _ A53.out).mono ?_
        rintro e w74 ⟨rfl, hb⟩
        refine ⟨_, rfl, ?_⟩
        replace BK314 := am_ (lb_ BK314 hb)
        replace BK315 := am_ (lb_ BK315 hb)
        replace HB := am_ (below_step (bb2_ HB GE314 GE315) hb)
        (try clear hb)
        (try clear hb2)
        (try clear hk)
        (try clear hi)
        refine hK.out _ _ (by repeat' (first | apply And.intro | exact (blk_cell BK315.out _).trans rfl | exact (blk_cell BK314.out _).trans rfl)) (fun hHeld => ?_)
        clear hK K
        refine nm2_ ?_
        refine one_ (i := 13) (N := some 47) #[true, true, true, true, true, true, true, true, true, true, true, true, true, true, false, false, false, false] rfl rfl (one_of HT_.out (by kernel_rfl)) (by decide) (fun K hK => ?_)
        refine goes_ Tryz.func94 (by kernel_rfl) rfl #[.agg #[.string a0_11, .int .i64 a0_12]] (by rfl) rfl rfl args_ ?_
        with_reducible refine (impl_Move_mirrored.calls a0_11 a0_12 t327 t328 _ A54.out).mono ?_
        rintro e w75 ⟨rfl, hb⟩
        refine ⟨_, rfl, ?_⟩
        replace BK314 := am_ (lb_ BK314 hb)
        replace BK315 := am_ (lb_ BK315 hb)
        replace HB := am_ (below_step (bb2_ HB GE314 GE315) hb)
        (try clear hb)
        (try clear hb2)
        (try clear hk)
        (try clear hi)
        refine hK.out _ _ (by repeat' (first | apply And.intro | exact (blk_cell BK315.out _).trans rfl | exact (blk_cell BK314.out _).trans rfl)) (fun hHeld => ?_)
        clear hK K
        refine nm2_ ?_
        refine one_ (i := 14) (N := some 48) #[true, true, true, true, true, true, true, true, true, true, true, true, true, true, true, false, false, false] rfl rfl (one_of HT_.out (by kernel_rfl)) (by decide) (fun K hK => ?_)
        refine goes_ Tryz.func93 (by kernel_rfl) rfl #[.agg #[.string t327, .int .i64 t328]] (by rfl) rfl rfl args_ ?_
        with_reducible refine (impl_Move_all.calls t327 t328 t329 _ A55.out).mono ?_
        rintro e w76 ⟨rfl, hb⟩
        refine ⟨_, rfl, ?_⟩
        replace BK314 := am_ (lb_ BK314 hb)
        replace BK315 := am_ (lb_ BK315 hb)
        replace HB := am_ (below_step (bb2_ HB GE314 GE315) hb)
        (try clear hb)
        (try clear hb2)
        (try clear hk)
        (try clear hi)
        refine hK.out _ _ (by repeat' (first | apply And.intro | exact (blk_cell BK315.out _).trans rfl | exact (blk_cell BK314.out _).trans rfl)) (fun hHeld => ?_)
        clear hK K
        refine nm2_ ?_
        refine pu2_ (i := 15) (N := some 49) #[true, true, true, true, true, true, true, true, true, true, true, true, true, true, true, true, false, false] rfl rfl ?_
        refine pu2_ (i := 16) (N := some 50) #[true, true, true, true, true, true, true, true, true, true, true, true, true, true, true, true, true, false] rfl rfl ?_
        refine pu2_ (i := 17) (N := some 6) #[true, true, true, true, true, true, true, true, true, true, true, true, true, true, true, true, true, true] rfl rfl ?_
        refine done_ (done_of HT_.out (by kernel_rfl)) ?_
        have hnb77 := NB314_315.out
        have hnc77 := NB315_314.out
        have hcz78_0 := cz0_ BK314
        have hcz78_1 := cz1_ BK314
        have hcz78_2 := cz2_ BK314
        have hcz78_3 := cz3_ BK314
        have hcz78_4 := cz4_ BK314
        have hcz78_5 := cz5_ BK314
        have hcz78_6 := cz6_ BK314
        have hcz78_7 := cz7_ BK314
        have hcz78_8 := cz8_ BK314
        have hcz78_9 := cz9_ BK314
        have hcz78_10 := cz10_ BK314
        have hcz78_11 := cz11_ BK314
        have hcz78_12 := cz12_ BK314
        try go_wp2_with (first | ((with_reducible refine gate_callee (f := 89) rfl ?_); refine goesL_ (some 52) rfl rfl Tryz.func89 (by kernel_rfl) rfl #[.agg #[.int .i64 a0_0, .int .i64 a0_1, .int .i64 a0_2, .int .i64 a0_3, .int .i64 a0_4, .bool a0_5, .int .i64 a0_6, .int .i64 a0_7, .int .i64 a0_8, .int .i64 a0_9, .bool a0_10, .string a0_11, .int .i64 a0_12]] rfl args_ ?_; (with_reducible refine (impl_Hand_moves.calls (w := _) (h := A56.out)).mono ?_); rintro e w79 ⟨rfl, hb⟩; refine ⟨_, rfl, ?_⟩; replace BK314 := am_ (lb_ BK314 hb); replace BK315 := am_ (lb_ BK315 hb); replace HB := am_ (below_step (bb2_ HB GE314 GE315) hb); (try clear hb); (try clear hb2); (try clear hk); (try clear hi); have hcz80_0 := cz0_ BK314; have hcz80_1 := cz1_ BK314; have hcz80_2 := cz2_ BK314; have hcz80_3 := cz3_ BK314; have hcz80_4 := cz4_ BK314; have hcz80_5 := cz5_ BK314; have hcz80_6 := cz6_ BK314; have hcz80_7 := cz7_ BK314; have hcz80_8 := cz8_ BK314; have hcz80_9 := cz9_ BK314; have hcz80_10 := cz10_ BK314; have hcz80_11 := cz11_ BK314; have hcz80_12 := cz12_ BK314; have hcz81_0 := cz0_ BK315; have hcz81_1 := cz1_ BK315; have hcz81_2 := cz2_ BK315; have hcz81_3 := cz3_ BK315; have hcz81_4 := cz4_ BK315; have hcz81_5 := cz5_ BK315; have hcz81_6 := cz6_ BK315; have hcz81_7 := cz7_ BK315; have hcz81_8 := cz8_ BK315; have hcz81_9 := cz9_ BK315; have hcz81_10 := cz10_ BK315; have hcz81_11 := cz11_ BK315; have hcz81_12 := cz12_ BK315))
        go_ret
        exact ⟨ew_, bb2_ HB GE314 GE315⟩
      ·rw [if_neg c58] at H
       have c58b0 : (a0_0 == a1_0 && (a0_1 == a1_1 && (a0_2 == a1_2 && (a0_3 == a1_3 && (a0_4 == a1_4 && (a0_5 == a1_5)))))) = false := by simpa using c58
       (try (have c58b1 : decide (a0_0 = a1_0 && (a0_1 == a1_1 && (a0_2 == a1_2 && (a0_3 == a1_3 && (a0_4 == a1_4 && (a0_5 == a1_5)))))) = false := by simpa using c58))
       (try (have c58b2 : (a0_0 == a1_0 && (a0_1 == a1_1 && (a0_2 == a1_2 && (a0_3 == a1_3 && (a0_4 == a1_4 && (a0_5 == a1_5)))))) = false := by simpa using c58))
       (try (have c58b3 : ¬ (a0_0 = a1_0 && (a0_1 == a1_1 && (a0_2 == a1_2 && (a0_3 == a1_3 && (a0_4 == a1_4 && (a0_5 == a1_5)))))) := by simpa using c58))
       clear c58
       obtain rfl := Option.some.inj H
       try go_wp2
       replace BK314 := am_ (blk_drew BK314.out)
       replace BK315 := am_ (blk_drew BK315.out)
       replace HB := am_ (below_drew1 HB.out)
       refine start_ (n := 18) (S := impl_keepRules.S0 gb315 gb314 a1_0 a1_1 a1_2 a1_3 a1_4 a1_6 a1_7 a1_8 a1_9 a1_12 a0_0 a0_1 a0_2 a0_3 a0_4 a0_6 a0_7 a0_8 a0_9 a0_12 a1_5 a1_10 a0_5 a0_10 a1_11 a0_11) (ds := []) #[false, false, false, false, false, false, false, false, false, false, false, false, false, false, false, false, false, false] (by kernel_rfl) rfl rfl (by repeat' (first | apply And.intro | exact (blk_cell BK315.out _).trans rfl | exact (blk_cell BK314.out _).trans rfl)) (fun hHeld => ?_); refine with_tabW impl_keepRules.tab4 impl_keepRules.bits4 (fun HT_ HW_ => ?_)
       generalize wc.drew = w82 at BK314 BK315 HB hHeld ⊢
       refine pu2_ (i := 0) (N := some 34) #[true, false, false, false, false, false, false, false, false, false, false, false, false, false, false, false, false, false] rfl rfl ?_
       refine pu2_ (i := 3) (N := some 37) #[true, false, false, true, false, false, false, false, false, false, false, false, false, false, false, false, false, false] rfl rfl ?_
       refine tk2_ (i := 1) (N := some 35) #[true, true, false, true, false, false, false, false, false, false, false, false, false, false, false, false, false, false] rfl rfl hHeld ?_
       refine tk2_ (i := 4) (N := some 38) #[true, true, false, true, true, false, false, false, false, false, false, false, false, false, false, false, false, false] rfl rfl hHeld ?_
       refine one_ (i := 2) (N := some 36) #[true, true, true, true, true, false, false, false, false, false, false, false, false, false, false, false, false, false] rfl rfl (one_of HT_.out (by kernel_rfl)) (by decide) (fun K hK => ?_)
       refine goes_ Tryz.func93 (by kernel_rfl) rfl #[.agg #[.string a1_11, .int .i64 a1_12]] (by rfl) rfl rfl args_ ?_
       with_reducible refine (impl_Move_all.calls a1_11 a1_12 t323 _ A16.out).mono ?_
       rintro e w83 ⟨rfl, hb⟩
       refine ⟨_, rfl, ?_⟩
       replace BK314 := am_ (lb_ BK314 hb)
       replace BK315 := am_ (lb_ BK315 hb)
       replace HB := am_ (below_step (bb2_ HB GE314 GE315) hb)
       (try clear hb)
       (try clear hb2)
       (try clear hk)
       (try clear hi)
       refine hK.out _ _ (by repeat' (first | apply And.intro | exact (blk_cell BK315.out _).trans rfl | exact (blk_cell BK314.out _).trans rfl)) (fun hHeld => ?_)
       clear hK K
       refine nm2_ ?_
       refine one_ (i := 5) (N := some 39) #[true, true, true, true, true, true, false, false, false, false, false, false, false, false, false, false, false, false] rfl rfl (one_of HT_.out (by kernel_rfl)) (by decide) (fun K hK => ?_)
       refine goes_ Tryz.func93 (by kernel_rfl) rfl #[.agg #[.string a0_11, .int .i64 a0_12]] (by rfl) rfl rfl args_ ?_
       with_reducible refine (impl_Move_all.calls a0_11 a0_12 t324 _ A17.out).mono ?_
       rintro e w84 ⟨rfl, hb⟩
       refine ⟨_, rfl, ?_⟩
       replace BK314 := am_ (lb_ BK314 hb)
       replace BK315 := am_ (lb_ BK315 hb)
       replace HB := am_ (below_step (bb2_ HB GE314 GE315) hb)
       (try clear hb)
       (try clear hb2)
       (try clear hk)
       (try clear hi)
       refine hK.out _ _ (by repeat' (first | apply And.intro | exact (blk_cell BK315.out _).trans rfl | exact (blk_cell BK314.out _).trans rfl)) (fun hHeld => ?_)
       clear hK K
       refine nm2_ ?_
       refine pu2_ (i := 6) (N := some 40) #[true, true, true, true, true, true, true, false, false, false, false, false, false, false, false, false, false, false] rfl rfl ?_
       refine pu2_ (i := 7) (N := some 41) #[true, true, true, true, true, true, true, true, false, false, false, false, false, false, false, false, false, false] rfl rfl ?_
       refine pu2_ (i := 8) (N := some 42) #[true, true, true, true, true, true, true, true, true, false, false, false, false, false, false, false, false, false] rfl rfl ?_
       refine pu2_ (i := 11) (N := some 45) #[true, true, true, true, true, true, true, true, true, false, false, true, false, false, false, false, false, false] rfl rfl ?_
       refine tk2_ (i := 9) (N := some 43) #[true, true, true, true, true, true, true, true, true, true, false, true, false, false, false, false, false, false] rfl rfl hHeld ?_
       refine tk2_ (i := 12) (N := some 46) #[true, true, true, true, true, true, true, true, true, true, false, true, true, false, false, false, false, false] rfl rfl hHeld ?_
       refine one_ (i := 10) (N := some 44) #[true, true, true, true, true, true, true, true, true, true, true, true, true, false, false, false, false, false] rfl rfl (one_of HT_.out (by kernel_rfl)) (by decide) (fun K hK => ?_)
       refine goes_ Tryz.func93 (by kernel_rfl) rfl #[.agg #[.string a1_11, .int .i64 a1_12]] (by rfl) rfl rfl args_ ?_
       with_reducible refine (impl_Move_all.calls a1_11 a1_12 t326 _ A53.out).mono ?_
       rintro e w85 ⟨rfl, hb⟩
       refine ⟨_, rfl, ?_⟩
       replace BK314 := am_ (lb_ BK314 hb)
       replace BK315 := am_ (lb_ BK315 hb)
       replace HB := am_ (below_step (bb2_ HB GE314 GE315) hb)
       (try clear hb)
       (try clear hb2)
       (try clear hk)
       (try clear hi)
       refine hK.out _ _ (by repeat' (first | apply And.intro | exact (blk_cell BK315.out _).trans rfl | exact (blk_cell BK314.out _).trans rfl)) (fun hHeld => ?_)
       clear hK K
       refine nm2_ ?_
       refine one_ (i := 13) (N := some 47) #[true, true, true, true, true, true, true, true, true, true, true, true, true, true, false, false, false, false] rfl rfl (one_of HT_.out (by kernel_rfl)) (by decide) (fun K hK => ?_)
       refine goes_ Tryz.func94 (by kernel_rfl) rfl #[.agg #[.string a0_11, .int .i64 a0_12]] (by rfl) rfl rfl args_ ?_
       with_reducible refine (impl_Move_mirrored.calls a0_11 a0_12 t327 t328 _ A54.out).mono ?_
       rintro e w86 ⟨rfl, hb⟩
       refine ⟨_, rfl, ?_⟩
       replace BK314 := am_ (lb_ BK314 hb)
       replace BK315 := am_ (lb_ BK315 hb)
       replace HB := am_ (below_step (bb2_ HB GE314 GE315) hb)
       (try clear hb)
       (try clear hb2)
       (try clear hk)
       (try clear hi)
       refine hK.out _ _ (by repeat' (first | apply And.intro | exact (blk_cell BK315.out _).trans rfl | exact (blk_cell BK314.out _).trans rfl)) (fun hHeld => ?_)
       clear hK K
       refine nm2_ ?_
       refine one_ (i := 14) (N := some 48) #[true, true, true, true, true, true, true, true, true, true, true, true, true, true, true, false, false, false] rfl rfl (one_of HT_.out (by kernel_rfl)) (by decide) (fun K hK => ?_)
       refine goes_ Tryz.func93 (by kernel_rfl) rfl #[.agg #[.string t327, .int .i64 t328]] (by rfl) rfl rfl args_ ?_
       with_reducible refine (impl_Move_all.calls t327 t328 t329 _ A55.out).mono ?_
       rintro e w87 ⟨rfl, hb⟩
       refine ⟨_, rfl, ?_⟩
       replace BK314 := am_ (lb_ BK314 hb)
       replace BK315 := am_ (lb_ BK315 hb)
       replace HB := am_ (below_step (bb2_ HB GE314 GE315) hb)
       (try clear hb)
       (try clear hb2)
       (try clear hk)
       (try clear hi)
       refine hK.out _ _ (by repeat' (first | apply And.intro | exact (blk_cell BK315.out _).trans rfl | exact (blk_cell BK314.out _).trans rfl)) (fun hHeld => ?_)
       clear hK K
       refine nm2_ ?_
       refine pu2_ (i := 15) (N := some 49) #[true, true, true, true, true, true, true, true, true, true, true, true, true, true, true, true, false, false] rfl rfl ?_
       refine pu2_ (i := 16) (N := some 50) #[true, true, true, true, true, true, true, true, true, true, true, true, true, true, true, true, true, false] rfl rfl ?_
       refine pu2_ (i := 17) (N := some 6) #[true, true, true, true, true, true, true, true, true, true, true, true, true, true, true, true, true, true] rfl rfl ?_
       refine done_ (done_of HT_.out (by kernel_rfl)) ?_
       have hnb88 := NB314_315.out
       have hnc88 := NB315_314.out
       have hcz89_0 := cz0_ BK314
       have hcz89_1 := cz1_ BK314
       have hcz89_2 := cz2_ BK314
       have hcz89_3 := cz3_ BK314
       have hcz89_4 := cz4_ BK314
       have hcz89_5 := cz5_ BK314
       have hcz89_6 := cz6_ BK314
       have hcz89_7 := cz7_ BK314
       have hcz89_8 := cz8_ BK314
       have hcz89_9 := cz9_ BK314
       have hcz89_10 := cz10_ BK314
       have hcz89_11 := cz11_ BK314
       have hcz89_12 := cz12_ BK314
       try go_wp2_with (first | ((with_reducible refine gate_callee (f := 89) rfl ?_); refine goesL_ (some 52) rfl rfl Tryz.func89 (by kernel_rfl) rfl #[.agg #[.int .i64 a0_0, .int .i64 a0_1, .int .i64 a0_2, .int .i64 a0_3, .int .i64 a0_4, .bool a0_5, .int .i64 a0_6, .int .i64 a0_7, .int .i64 a0_8, .int .i64 a0_9, .bool a0_10, .string a0_11, .int .i64 a0_12]] rfl args_ ?_; (with_reducible refine (impl_Hand_moves.calls (w := _) (h := A56.out)).mono ?_); rintro e w90 ⟨rfl, hb⟩; refine ⟨_, rfl, ?_⟩; replace BK314 := am_ (lb_ BK314 hb); replace BK315 := am_ (lb_ BK315 hb); replace HB := am_ (below_step (bb2_ HB GE314 GE315) hb); (try clear hb); (try clear hb2); (try clear hk); (try clear hi); have hcz91_0 := cz0_ BK314; have hcz91_1 := cz1_ BK314; have hcz91_2 := cz2_ BK314; have hcz91_3 := cz3_ BK314; have hcz91_4 := cz4_ BK314; have hcz91_5 := cz5_ BK314; have hcz91_6 := cz6_ BK314; have hcz91_7 := cz7_ BK314; have hcz91_8 := cz8_ BK314; have hcz91_9 := cz9_ BK314; have hcz91_10 := cz10_ BK314; have hcz91_11 := cz11_ BK314; have hcz91_12 := cz12_ BK314; have hcz92_0 := cz0_ BK315; have hcz92_1 := cz1_ BK315; have hcz92_2 := cz2_ BK315; have hcz92_3 := cz3_ BK315; have hcz92_4 := cz4_ BK315; have hcz92_5 := cz5_ BK315; have hcz92_6 := cz6_ BK315; have hcz92_7 := cz7_ BK315; have hcz92_8 := cz8_ BK315; have hcz92_9 := cz9_ BK315; have hcz92_10 := cz10_ BK315; have hcz92_11 := cz11_ BK315; have hcz92_12 := cz12_ BK315))
       go_ret
       exact ⟨ew_, bb2_ HB GE314 GE315⟩
     ·replace c57 := Bool.eq_false_iff.mpr c57
      subst c57
      have H1 : (some false) = some r := by rw [if_neg (show ¬ (false = true) by decide)] at H; exact H
      clear H
      have H := H1
      clear H1
      obtain rfl := Option.some.inj H
      try go_wp2
      replace BK314 := am_ (blk_drew BK314.out)
      replace BK315 := am_ (blk_drew BK315.out)
      replace HB := am_ (below_drew1 HB.out)
      refine start_ (n := 18) (S := impl_keepRules.S0 gb315 gb314 a1_0 a1_1 a1_2 a1_3 a1_4 a1_6 a1_7 a1_8 a1_9 a1_12 a0_0 a0_1 a0_2 a0_3 a0_4 a0_6 a0_7 a0_8 a0_9 a0_12 a1_5 a1_10 a0_5 a0_10 a1_11 a0_11) (ds := []) #[false, false, false, false, false, false, false, false, false, false, false, false, false, false, false, false, false, false] (by kernel_rfl) rfl rfl (by repeat' (first | apply And.intro | exact (blk_cell BK315.out _).trans rfl | exact (blk_cell BK314.out _).trans rfl)) (fun hHeld => ?_); refine with_tabW impl_keepRules.tab4 impl_keepRules.bits4 (fun HT_ HW_ => ?_)
      generalize wc.drew = w93 at BK314 BK315 HB hHeld ⊢
      refine pu2_ (i := 0) (N := some 34) #[true, false, false, false, false, false, false, false, false, false, false, false, false, false, false, false, false, false] rfl rfl ?_
      refine pu2_ (i := 3) (N := some 37) #[true, false, false, true, false, false, false, false, false, false, false, false, false, false, false, false, false, false] rfl rfl ?_
      refine tk2_ (i := 1) (N := some 35) #[true, true, false, true, false, false, false, false, false, false, false, false, false, false, false, false, false, false] rfl rfl hHeld ?_
      refine tk2_ (i := 4) (N := some 38) #[true, true, false, true, true, false, false, false, false, false, false, false, false, false, false, false, false, false] rfl rfl hHeld ?_
      refine one_ (i := 2) (N := some 36) #[true, true, true, true, true, false, false, false, false, false, false, false, false, false, false, false, false, false] rfl rfl (one_of HT_.out (by kernel_rfl)) (by decide) (fun K hK => ?_)
      refine goes_ Tryz.func93 (by kernel_rfl) rfl #[.agg #[.string a1_11, .int .i64 a1_12]] (by rfl) rfl rfl args_ ?_
      with_reducible refine (impl_Move_all.calls a1_11 a1_12 t323 _ A16.out).mono ?_
      rintro e w94 ⟨rfl, hb⟩
      refine ⟨_, rfl, ?_⟩
      replace BK314 := am_ (lb_ BK314 hb)
      replace BK315 := am_ (lb_ BK315 hb)
      replace HB := am_ (below_step (bb2_ HB GE314 GE315) hb)
      (try clear hb)
      (try clear hb2)
      (try clear hk)
      (try clear hi)
      refine hK.out _ _ (by repeat' (first | apply And.intro | exact (blk_cell BK315.out _).trans rfl | exact (blk_cell BK314.out _).trans rfl)) (fun hHeld => ?_)
      clear hK K
      refine nm2_ ?_
      refine one_ (i := 5) (N := some 39) #[true, true, true, true, true, true, false, false, false, false, false, false, false, false, false, false, false, false] rfl rfl (one_of HT_.out (by kernel_rfl)) (by decide) (fun K hK => ?_)
      refine goes_ Tryz.func93 (by kernel_rfl) rfl #[.agg #[.string a0_11, .int .i64 a0_12]] (by rfl) rfl rfl args_ ?_
      with_reducible refine (impl_Move_all.calls a0_11 a0_12 t324 _ A17.out).mono ?_
      rintro e w95 ⟨rfl, hb⟩
      refine ⟨_, rfl, ?_⟩
      replace BK314 := am_ (lb_ BK314 hb)
      replace BK315 := am_ (lb_ BK315 hb)
      replace HB := am_ (below_step (bb2_ HB GE314 GE315) hb)
      (try clear hb)
      (try clear hb2)
      (try clear hk)
      (try clear hi)
      refine hK.out _ _ (by repeat' (first | apply And.intro | exact (blk_cell BK315.out _).trans rfl | exact (blk_cell BK314.out _).trans rfl)) (fun hHeld => ?_)
      clear hK K
      refine nm2_ ?_
      refine pu2_ (i := 6) (N := some 40) #[true, true, true, true, true, true, true, false, false, false, false, false, false, false, false, false, false, false] rfl rfl ?_
      refine pu2_ (i := 7) (N := some 41) #[true, true, true, true, true, true, true, true, false, false, false, false, false, false, false, false, false, false] rfl rfl ?_
      refine pu2_ (i := 8) (N := some 42) #[true, true, true, true, true, true, true, true, true, false, false, false, false, false, false, false, false, false] rfl rfl ?_
      refine pu2_ (i := 11) (N := some 45) #[true, true, true, true, true, true, true, true, true, false, false, true, false, false, false, false, false, false] rfl rfl ?_
      refine tk2_ (i := 9) (N := some 43) #[true, true, true, true, true, true, true, true, true, true, false, true, false, false, false, false, false, false] rfl rfl hHeld ?_
      refine tk2_ (i := 12) (N := some 46) #[true, true, true, true, true, true, true, true, true, true, false, true, true, false, false, false, false, false] rfl rfl hHeld ?_
      refine one_ (i := 10) (N := some 44) #[true, true, true, true, true, true, true, true, true, true, true, true, true, false, false, false, false, false] rfl rfl (one_of HT_.out (by kernel_rfl)) (by decide) (fun K hK => ?_)
      refine goes_ Tryz.func93 (by kernel_rfl) rfl #[.agg #[.string a1_11, .int .i64 a1_12]] (by rfl) rfl rfl args_ ?_
      with_reducible refine (impl_Move_all.calls a1_11 a1_12 t326 _ A53.out).mono ?_
      rintro e w96 ⟨rfl, hb⟩
      refine ⟨_, rfl, ?_⟩
      replace BK314 := am_ (lb_ BK314 hb)
      replace BK315 := am_ (lb_ BK315 hb)
      replace HB := am_ (below_step (bb2_ HB GE314 GE315) hb)
      (try clear hb)
      (try clear hb2)
      (try clear hk)
      (try clear hi)
      refine hK.out _ _ (by repeat' (first | apply And.intro | exact (blk_cell BK315.out _).trans rfl | exact (blk_cell BK314.out _).trans rfl)) (fun hHeld => ?_)
      clear hK K
      refine nm2_ ?_
      refine one_ (i := 13) (N := some 47) #[true, true, true, true, true, true, true, true, true, true, true, true, true, true, false, false, false, false] rfl rfl (one_of HT_.out (by kernel_rfl)) (by decide) (fun K hK => ?_)
      refine goes_ Tryz.func94 (by kernel_rfl) rfl #[.agg #[.string a0_11, .int .i64 a0_12]] (by rfl) rfl rfl args_ ?_
      with_reducible refine (impl_Move_mirrored.calls a0_11 a0_12 t327 t328 _ A54.out).mono ?_
      rintro e w97 ⟨rfl, hb⟩
      refine ⟨_, rfl, ?_⟩
      replace BK314 := am_ (lb_ BK314 hb)
      replace BK315 := am_ (lb_ BK315 hb)
      replace HB := am_ (below_step (bb2_ HB GE314 GE315) hb)
      (try clear hb)
      (try clear hb2)
      (try clear hk)
      (try clear hi)
      refine hK.out _ _ (by repeat' (first | apply And.intro | exact (blk_cell BK315.out _).trans rfl | exact (blk_cell BK314.out _).trans rfl)) (fun hHeld => ?_)
      clear hK K
      refine nm2_ ?_
      refine one_ (i := 14) (N := some 48) #[true, true, true, true, true, true, true, true, true, true, true, true, true, true, true, false, false, false] rfl rfl (one_of HT_.out (by kernel_rfl)) (by decide) (fun K hK => ?_)
      refine goes_ Tryz.func93 (by kernel_rfl) rfl #[.agg #[.string t327, .int .i64 t328]] (by rfl) rfl rfl args_ ?_
      with_reducible refine (impl_Move_all.calls t327 t328 t329 _ A55.out).mono ?_
      rintro e w98 ⟨rfl, hb⟩
      refine ⟨_, rfl, ?_⟩
      replace BK314 := am_ (lb_ BK314 hb)
      replace BK315 := am_ (lb_ BK315 hb)
      replace HB := am_ (below_step (bb2_ HB GE314 GE315) hb)
      (try clear hb)
      (try clear hb2)
      (try clear hk)
      (try clear hi)
      refine hK.out _ _ (by repeat' (first | apply And.intro | exact (blk_cell BK315.out _).trans rfl | exact (blk_cell BK314.out _).trans rfl)) (fun hHeld => ?_)
      clear hK K
      refine nm2_ ?_
      refine pu2_ (i := 15) (N := some 49) #[true, true, true, true, true, true, true, true, true, true, true, true, true, true, true, true, false, false] rfl rfl ?_
      refine pu2_ (i := 16) (N := some 50) #[true, true, true, true, true, true, true, true, true, true, true, true, true, true, true, true, true, false] rfl rfl ?_
      refine pu2_ (i := 17) (N := some 6) #[true, true, true, true, true, true, true, true, true, true, true, true, true, true, true, true, true, true] rfl rfl ?_
      refine done_ (done_of HT_.out (by kernel_rfl)) ?_
      have hnb99 := NB314_315.out
      have hnc99 := NB315_314.out
      have hcz100_0 := cz0_ BK314
      have hcz100_1 := cz1_ BK314
      have hcz100_2 := cz2_ BK314
      have hcz100_3 := cz3_ BK314
      have hcz100_4 := cz4_ BK314
      have hcz100_5 := cz5_ BK314
      have hcz100_6 := cz6_ BK314
      have hcz100_7 := cz7_ BK314
      have hcz100_8 := cz8_ BK314
      have hcz100_9 := cz9_ BK314
      have hcz100_10 := cz10_ BK314
      have hcz100_11 := cz11_ BK314
      have hcz100_12 := cz12_ BK314
      try go_wp2_with (first | ((with_reducible refine gate_callee (f := 89) rfl ?_); refine goesL_ (some 52) rfl rfl Tryz.func89 (by kernel_rfl) rfl #[.agg #[.int .i64 a0_0, .int .i64 a0_1, .int .i64 a0_2, .int .i64 a0_3, .int .i64 a0_4, .bool a0_5, .int .i64 a0_6, .int .i64 a0_7, .int .i64 a0_8, .int .i64 a0_9, .bool a0_10, .string a0_11, .int .i64 a0_12]] rfl args_ ?_; (with_reducible refine (impl_Hand_moves.calls (w := _) (h := A56.out)).mono ?_); rintro e w101 ⟨rfl, hb⟩; refine ⟨_, rfl, ?_⟩; replace BK314 := am_ (lb_ BK314 hb); replace BK315 := am_ (lb_ BK315 hb); replace HB := am_ (below_step (bb2_ HB GE314 GE315) hb); clear hb))
      go_ret
      exact ⟨ew_, bb2_ HB GE314 GE315⟩
 ·replace c4 := Bool.eq_false_iff.mpr c4
  subst c4
  have H1 : (if (a1_0 == a0_0 && (a1_1 == a0_1 && (a1_2 == a0_2 && (a1_3 == a0_3 && (a1_4 == a0_4 && (a1_5 == a0_5)))))) = true then (some true) else ((impl_PlainShapes.f k).bind fun t317 => ((impl_Shape_90.f k t317 a1_0 a1_1 a1_2 a1_3 a1_4 a1_5).bind fun t320 => (some t320)))) = some r := by rw [if_neg (show ¬ (false = true) by decide)] at H; exact H
  clear H
  have H := H1
  clear H1
  by_cases c102 : (a1_0 == a0_0 && (a1_1 == a0_1 && (a1_2 == a0_2 && (a1_3 == a0_3 && (a1_4 == a0_4 && (a1_5 == a0_5)))))) = true
  ·rw [if_pos c102] at H
   have c102b0 : (a1_0 == a0_0 && (a1_1 == a0_1 && (a1_2 == a0_2 && (a1_3 == a0_3 && (a1_4 == a0_4 && (a1_5 == a0_5)))))) = true := c102
   (try (have c102b1 : decide (a1_0 = a0_0 && (a1_1 == a0_1 && (a1_2 == a0_2 && (a1_3 == a0_3 && (a1_4 == a0_4 && (a1_5 == a0_5)))))) = true := by simpa using c102))
   (try (have c102b2 : (a1_0 == a0_0 && (a1_1 == a0_1 && (a1_2 == a0_2 && (a1_3 == a0_3 && (a1_4 == a0_4 && (a1_5 == a0_5)))))) = true := by simpa using c102))
   clear c102
   obtain rfl := Option.some.inj H
   go_enter Tryz.func52, Tryz.ntmps52
   try go_wp2_with (first | ((with_reducible refine gate_dst (N := 2) rfl ?_); refine bx_ (cs := #[.int .i64 a0_0, .int .i64 a0_1, .int .i64 a0_2, .int .i64 a0_3, .int .i64 a0_4, .bool a0_5, .int .i64 a0_6, .int .i64 a0_7, .int .i64 a0_8, .int .i64 a0_9, .bool a0_10, .string a0_11, .int .i64 a0_12]) (t := 42) ?_; intro gb314 hg w103 hbox hb; have BK314 := am_ (hbox); have GW314 := gz_ hg HB; have GE314 := gz_ hg HB; replace HB := am_ (bt_ HB hb); clear hb hbox hg) | ((with_reducible refine gate_dst (N := 3) rfl ?_); refine bx_ (cs := #[.int .i64 a1_0, .int .i64 a1_1, .int .i64 a1_2, .int .i64 a1_3, .int .i64 a1_4, .bool a1_5, .int .i64 a1_6, .int .i64 a1_7, .int .i64 a1_8, .int .i64 a1_9, .bool a1_10, .string a1_11, .int .i64 a1_12]) (t := 42) ?_; intro gb315 hg w104 hbox hb; have BK315 := am_ (hbox); have GW315 := gy_ hg (bb1_ HB GE314); have GE315 := gy_ hg (bb1_ HB GE314); replace HB := am_ (below_step (bb1_ HB GE314) hb); have NB314_315 := nl_ hg BK314; have NB315_314 := ng_ hg BK314; replace BK314 := am_ (lb_ BK314 hb); clear hb hbox hg; have hnb105 := NB315_314.out; have hnc105 := NB314_315.out; have hcz106_0 := cz0_ BK315; have hcz106_1 := cz1_ BK315; have hcz106_2 := cz2_ BK315; have hcz106_3 := cz3_ BK315; have hcz106_4 := cz4_ BK315; have hcz106_5 := cz5_ BK315; have hcz106_6 := cz6_ BK315; have hcz106_7 := cz7_ BK315; have hcz106_8 := cz8_ BK315; have hcz106_9 := cz9_ BK315; have hcz106_10 := cz10_ BK315; have hcz106_11 := cz11_ BK315; have hcz106_12 := cz12_ BK315) | ((with_reducible refine gate_callee (f := 89) rfl ?_); refine goesL_ (some 8) rfl rfl Tryz.func89 (by kernel_rfl) rfl #[.agg #[.int .i64 a1_0, .int .i64 a1_1, .int .i64 a1_2, .int .i64 a1_3, .int .i64 a1_4, .bool a1_5, .int .i64 a1_6, .int .i64 a1_7, .int .i64 a1_8, .int .i64 a1_9, .bool a1_10, .string a1_11, .int .i64 a1_12]] rfl args_ ?_; (with_reducible refine (impl_Hand_moves.calls (w := _) (h := A3.out)).mono ?_); rintro e w107 ⟨rfl, hb⟩; refine ⟨_, rfl, ?_⟩; replace BK314 := am_ (lb_ BK314 hb); replace BK315 := am_ (lb_ BK315 hb); replace HB := am_ (below_step (bb2_ HB GE314 GE315) hb); clear hb))
   replace BK314 := am_ (blk_drew BK314.out)
   replace BK315 := am_ (blk_drew BK315.out)
   replace HB := am_ (below_drew1 HB.out)
   refine start_ (n := 12) (S := impl_keepRules.S0 gb315 gb314 a1_0 a1_1 a1_2 a1_3 a1_4 a1_6 a1_7 a1_8 a1_9 a1_12 a0_0 a0_1 a0_2 a0_3 a0_4 a0_6 a0_7 a0_8 a0_9 a0_12 a1_5 a1_10 a0_5 a0_10 a1_11 a0_11) (ds := []) #[false, false, false, false, false, false, false, false, false, false, false, false] (by kernel_rfl) rfl rfl (by repeat' (first | apply And.intro | exact (blk_cell BK315.out _).trans rfl | exact (blk_cell BK314.out _).trans rfl)) (fun hHeld => ?_); refine with_tabW impl_keepRules.tab2 impl_keepRules.bits2 (fun HT_ HW_ => ?_)
   generalize w107.drew = w108 at BK314 BK315 HB hHeld ⊢
   refine pu2_ (i := 0) (N := some 10) #[true, false, false, false, false, false, false, false, false, false, false, false] rfl rfl ?_
   refine pu2_ (i := 2) (N := some 12) #[true, false, true, false, false, false, false, false, false, false, false, false] rfl rfl ?_
   refine tk2_ (i := 1) (N := some 11) #[true, true, true, false, false, false, false, false, false, false, false, false] rfl rfl hHeld ?_
   refine tk2_ (i := 3) (N := some 13) #[true, true, true, true, false, false, false, false, false, false, false, false] rfl rfl hHeld ?_
   refine pu2_ (i := 4) (N := some 14) #[true, true, true, true, true, false, false, false, false, false, false, false] rfl rfl ?_
   refine pu2_ (i := 5) (N := some 15) #[true, true, true, true, true, true, false, false, false, false, false, false] rfl rfl ?_
   refine pure_ (i := 6) (N := some 16) (v := undef) (a' := ?_) #[true, true, true, true, true, true, true, false, false, false, false, false] rfl rfl (any_of HT_.out (by kernel_rfl)) (fun _ _ _ h => h) (Or.inr ⟨by rfl, rfl⟩) ?_ ?_
   rotate_left
   ·simp only [Act.put, sA_, sB_, sC_, i64_w, i32_w]
    rfl
   refine pure_ (i := 7) (N := some 17) (v := undef) (a' := ?_) #[true, true, true, true, true, true, true, true, false, false, false, false] rfl rfl (any_of HT_.out (by kernel_rfl)) (fun _ _ _ h => h) (Or.inr ⟨by rfl, rfl⟩) ?_ ?_
   rotate_left
   ·simp only [Act.put, sA_, sB_, sC_, i64_w, i32_w]
    rfl
   refine pure_ (i := 8) (N := some 18) (v := undef) (a' := ?_) #[true, true, true, true, true, true, true, true, true, false, false, false] rfl rfl (any_of HT_.out (by kernel_rfl)) (fun _ _ _ h => h) (Or.inr ⟨by rfl, rfl⟩) ?_ ?_
   rotate_left
   ·simp only [Act.put, sA_, sB_, sC_, i64_w, i32_w]
    rfl
   refine pure_ (i := 9) (N := some 19) (v := undef) (a' := ?_) #[true, true, true, true, true, true, true, true, true, true, false, false] rfl rfl (any_of HT_.out (by kernel_rfl)) (fun _ _ _ h => h) (Or.inr ⟨by rfl, rfl⟩) ?_ ?_
   rotate_left
   ·simp only [Act.put, sA_, sB_, sC_, i64_w, i32_w]
    rfl
   refine pu2_ (i := 10) (N := some 20) #[true, true, true, true, true, true, true, true, true, true, true, false] rfl rfl ?_
   refine pu2_ (i := 11) (N := some 4) #[true, true, true, true, true, true, true, true, true, true, true, true] rfl rfl ?_
   refine done_ (done_of HT_.out (by kernel_rfl)) ?_
   try go_wp2
   go_ret
   exact ⟨ew_, bb2_ HB GE314 GE315⟩
  ·rw [if_neg c102] at H
   have c102b0 : (a1_0 == a0_0 && (a1_1 == a0_1 && (a1_2 == a0_2 && (a1_3 == a0_3 && (a1_4 == a0_4 && (a1_5 == a0_5)))))) = false := by simpa using c102
   (try (have c102b1 : decide (a1_0 = a0_0 && (a1_1 == a0_1 && (a1_2 == a0_2 && (a1_3 == a0_3 && (a1_4 == a0_4 && (a1_5 == a0_5)))))) = false := by simpa using c102))
   (try (have c102b2 : (a1_0 == a0_0 && (a1_1 == a0_1 && (a1_2 == a0_2 && (a1_3 == a0_3 && (a1_4 == a0_4 && (a1_5 == a0_5)))))) = false := by simpa using c102))
   (try (have c102b3 : ¬ (a1_0 = a0_0 && (a1_1 == a0_1 && (a1_2 == a0_2 && (a1_3 == a0_3 && (a1_4 == a0_4 && (a1_5 == a0_5)))))) := by simpa using c102))
   clear c102
   replace H := Option.bind_eq_some_iff.mp H
   obtain ⟨t317, A1090, H⟩ := H
   try dsimp only at H
   have A109 := Aside0.mk A1090
   clear A1090
   replace H := Option.bind_eq_some_iff.mp H
   obtain ⟨t320, A1100, H⟩ := H
   try dsimp only at H
   have A110 := Aside0.mk A1100
   clear A1100
   obtain rfl := Option.some.inj H
   go_enter Tryz.func52, Tryz.ntmps52
   try go_wp2_with (first | ((with_reducible refine gate_dst (N := 2) rfl ?_); refine bx_ (cs := #[.int .i64 a0_0, .int .i64 a0_1, .int .i64 a0_2, .int .i64 a0_3, .int .i64 a0_4, .bool a0_5, .int .i64 a0_6, .int .i64 a0_7, .int .i64 a0_8, .int .i64 a0_9, .bool a0_10, .string a0_11, .int .i64 a0_12]) (t := 42) ?_; intro gb314 hg w111 hbox hb; have BK314 := am_ (hbox); have GW314 := gz_ hg HB; have GE314 := gz_ hg HB; replace HB := am_ (bt_ HB hb); clear hb hbox hg) | ((with_reducible refine gate_dst (N := 3) rfl ?_); refine bx_ (cs := #[.int .i64 a1_0, .int .i64 a1_1, .int .i64 a1_2, .int .i64 a1_3, .int .i64 a1_4, .bool a1_5, .int .i64 a1_6, .int .i64 a1_7, .int .i64 a1_8, .int .i64 a1_9, .bool a1_10, .string a1_11, .int .i64 a1_12]) (t := 42) ?_; intro gb315 hg w112 hbox hb; have BK315 := am_ (hbox); have GW315 := gy_ hg (bb1_ HB GE314); have GE315 := gy_ hg (bb1_ HB GE314); replace HB := am_ (below_step (bb1_ HB GE314) hb); have NB314_315 := nl_ hg BK314; have NB315_314 := ng_ hg BK314; replace BK314 := am_ (lb_ BK314 hb); clear hb hbox hg; have hnb113 := NB315_314.out; have hnc113 := NB314_315.out; have hcz114_0 := cz0_ BK315; have hcz114_1 := cz1_ BK315; have hcz114_2 := cz2_ BK315; have hcz114_3 := cz3_ BK315; have hcz114_4 := cz4_ BK315; have hcz114_5 := cz5_ BK315; have hcz114_6 := cz6_ BK315; have hcz114_7 := cz7_ BK315; have hcz114_8 := cz8_ BK315; have hcz114_9 := cz9_ BK315; have hcz114_10 := cz10_ BK315; have hcz114_11 := cz11_ BK315; have hcz114_12 := cz12_ BK315) | ((with_reducible refine gate_callee (f := 89) rfl ?_); refine goesL_ (some 8) rfl rfl Tryz.func89 (by kernel_rfl) rfl #[.agg #[.int .i64 a1_0, .int .i64 a1_1, .int .i64 a1_2, .int .i64 a1_3, .int .i64 a1_4, .bool a1_5, .int .i64 a1_6, .int .i64 a1_7, .int .i64 a1_8, .int .i64 a1_9, .bool a1_10, .string a1_11, .int .i64 a1_12]] rfl args_ ?_; (with_reducible refine (impl_Hand_moves.calls (w := _) (h := A3.out)).mono ?_); rintro e w115 ⟨rfl, hb⟩; refine ⟨_, rfl, ?_⟩; replace BK314 := am_ (lb_ BK314 hb); replace BK315 := am_ (lb_ BK315 hb); replace HB := am_ (below_step (bb2_ HB GE314 GE315) hb); clear hb))
   replace BK314 := am_ (blk_drew BK314.out)
   replace BK315 := am_ (blk_drew BK315.out)
   replace HB := am_ (below_drew1 HB.out)
   refine start_ (n := 12) (S := impl_keepRules.S0 gb315 gb314 a1_0 a1_1 a1_2 a1_3 a1_4 a1_6 a1_7 a1_8 a1_9 a1_12 a0_0 a0_1 a0_2 a0_3 a0_4 a0_6 a0_7 a0_8 a0_9 a0_12 a1_5 a1_10 a0_5 a0_10 a1_11 a0_11) (ds := []) #[false, false, false, false, false, false, false, false, false, false, false, false] (by kernel_rfl) rfl rfl (by repeat' (first | apply And.intro | exact (blk_cell BK315.out _).trans rfl | exact (blk_cell BK314.out _).trans rfl)) (fun hHeld => ?_); refine with_tabW impl_keepRules.tab2 impl_keepRules.bits2 (fun HT_ HW_ => ?_)
   generalize w115.drew = w116 at BK314 BK315 HB hHeld ⊢
   refine pu2_ (i := 0) (N := some 10) #[true, false, false, false, false, false, false, false, false, false, false, false] rfl rfl ?_
   refine pu2_ (i := 2) (N := some 12) #[true, false, true, false, false, false, false, false, false, false, false, false] rfl rfl ?_
   refine tk2_ (i := 1) (N := some 11) #[true, true, true, false, false, false, false, false, false, false, false, false] rfl rfl hHeld ?_
   refine tk2_ (i := 3) (N := some 13) #[true, true, true, true, false, false, false, false, false, false, false, false] rfl rfl hHeld ?_
   refine pu2_ (i := 4) (N := some 14) #[true, true, true, true, true, false, false, false, false, false, false, false] rfl rfl ?_
   refine pu2_ (i := 5) (N := some 15) #[true, true, true, true, true, true, false, false, false, false, false, false] rfl rfl ?_
   refine pu2_ (i := 7) (N := some 17) #[true, true, true, true, true, true, false, true, false, false, false, false] rfl rfl ?_
   refine tk2_ (i := 8) (N := some 18) #[true, true, true, true, true, true, false, true, true, false, false, false] rfl rfl hHeld ?_
   refine one_ (i := 6) (N := some 16) #[true, true, true, true, true, true, true, true, true, false, false, false] rfl rfl (one_of HT_.out (by kernel_rfl)) (by decide) (fun K hK => ?_)
   refine goes_ Tryz.func91 (by kernel_rfl) rfl #[] (by rfl) rfl rfl args_ ?_
   with_reducible refine (impl_PlainShapes.calls k  t317 _ A109.out).mono ?_
   rintro e w117 ⟨v318, rfl, ho0, hb⟩
   refine ⟨_, rfl, ?_⟩
   have HO319 := am_ (Kd.R_lower ho0 (below_size (bb2_ HB GE314 GE315)))
   replace BK314 := am_ (lb_ BK314 hb)
   replace BK315 := am_ (lb_ BK315 hb)
   replace HB := am_ (below_step (bb2_ HB GE314 GE315) hb)
   (try clear hb)
   (try clear hb2)
   (try clear hk)
   (try clear hi)
   (try clear ho0)
   obtain ⟨Ao118, co118, eo118⟩ := Kd.R_slice HO319.out
   (first | subst eo118 | (injection eo118 with f1_ f2_ f3_; have f4_ := f1_.symm; have f5_ := f3_.symm; clear f1_ f2_ f3_; subst f4_; subst f5_))
   refine hK.out _ _ (by repeat' (first | apply And.intro | exact (blk_cell BK315.out _).trans rfl | exact (blk_cell BK314.out _).trans rfl)) (fun hHeld => ?_)
   clear hK K
   refine nm2_ ?_
   refine one_ (i := 9) (N := some 19) #[true, true, true, true, true, true, true, true, true, true, false, false] rfl rfl (one_of HT_.out (by kernel_rfl)) (by decide) (fun K hK => ?_)
   refine goes_ Tryz.func90 (by kernel_rfl) rfl #[.slice Ao118 t317.length co118, .agg #[.int .i64 a1_0, .int .i64 a1_1, .int .i64 a1_2, .int .i64 a1_3, .int .i64 a1_4, .bool a1_5]] (by rfl) rfl rfl args_ ?_
   with_reducible refine (impl_Shape_90.calls k _ _ t317 a1_0 a1_1 a1_2 a1_3 a1_4 a1_5 t320 _ ?side1 ?side2 A110.out).mono ?_
   (case side1 => exact cr_ HO319)
   (case side2 => exact (Kd.R_reads' HO319.out).2.1)
   rintro e w119 ⟨rfl, hb⟩
   refine ⟨_, rfl, ?_⟩
   replace HO319 := am_ (Kd.R_below (ra_ HO319) hb)
   replace BK314 := am_ (lb_ BK314 hb)
   replace BK315 := am_ (lb_ BK315 hb)
   replace HB := am_ (below_step (bb2_ HB GE314 GE315) hb)
   (try clear hb)
   (try clear hb2)
   (try clear hk)
   (try clear hi)
   refine hK.out _ _ (by repeat' (first | apply And.intro | exact (blk_cell BK315.out _).trans rfl | exact (blk_cell BK314.out _).trans rfl)) (fun hHeld => ?_)
   clear hK K
   refine nm2_ ?_
   refine pu2_ (i := 10) (N := some 20) #[true, true, true, true, true, true, true, true, true, true, true, false] rfl rfl ?_
   refine pu2_ (i := 11) (N := some 4) #[true, true, true, true, true, true, true, true, true, true, true, true] rfl rfl ?_
   refine done_ (done_of HT_.out (by kernel_rfl)) ?_
   try go_wp2
   go_ret
   exact ⟨ew_, bb2_ HB GE314 GE315⟩

end Go.Proofs.YtmbffgkejknfaaaGreatDoor.PA
