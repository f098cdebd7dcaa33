-- Written by a program of this session (wip/tools/myprint.py). Not trusted: Lean checks it.
import Derived.Test.YtmbffgkejknfaaaGreatDoorSq4
import Derived.Test.YtmbffgkejknfaaaGreatDoorPAx0
import Derived.Test.YtmbffgkejknfaaaGreatDoorPAx1
import Derived.Test.YtmbffgkejknfaaaGreatDoorPAx2
import Derived.Test.YtmbffgkejknfaaaGreatDoorPAx3
import Derived.Test.YtmbffgkejknfaaaGreatDoorPAx4
import Derived.Test.YtmbffgkejknfaaaGreatDoorPAx6
import Derived.Test.YtmbffgkejknfaaaGreatDoorPAx11
import Derived.Test.YtmbffgkejknfaaaGreatDoorPAx16
namespace Go.Proofs.YtmbffgkejknfaaaGreatDoor.PA
open Go.RowKit Go.Proofs.YtmbffgkejknfaaaGreatDoorW.PrintWords Go.Proofs.YtmbffgkejknfaaaGreatDoorW.PrintLast Go.Proofs.YtmbffgkejknfaaaGreatDoorW.PrintMore
attribute [local go_sem] max2_int min2_int max_two min_two max_three min_three max_four min_four   -- for this text's walks alone
set_option linter.unusedVariables false
set_option linter.unusedSimpArgs false

attribute [local go_sem high] eqA37 eqA38 eqA39 eqA40
/-! ### spec_SharedParts: function 10 -/
def spec_SharedParts.l0 : Nat → Int → List Bool → Int → Int → Int → Int → Int → Int → Int → Bool → Int → Int → Int → Int → Bool → ByteArray → Int → Bool → Int → Int → Int → Int → Int → Bool → Int → Int → Int → Int → Bool → ByteArray → Int → Option (Int × Bool)
 | 0, _, _, _, _, _, _, _, _, _, _, _, _, _, _, _, _, _, _, _, _, _, _, _, _, _, _, _, _, _, _, _ => none
 | k + 1, x4, x38, x39, x40, x202000, x202001, x202002, x202003, x202004, x202005, x202006, x202007, x202008, x202009, x202010, x202011, x202012, x202013, x202014, x202015, x202016, x202017, x202018, x202019, x202020, x202021, x202022, x202023, x202024, x202025, x202026 => if x40 < x39 then (if 0 ≤ x40 then (if x40 < (x38.length : Int) then (if x202013 = true then (if rdOf false x38 x40 = true then (spec_SharedParts.l0 k (wrap64 (x4 + 1)) x38 x39 (wrap64 (x40 + 1)) x202000 x202001 x202002 x202003 x202004 x202005 x202006 x202007 x202008 x202009 x202010 x202011 x202012 x202013 x202014 x202015 x202016 x202017 x202018 x202019 x202020 x202021 x202022 x202023 x202024 x202025 x202026) else (spec_SharedParts.l0 k x4 x38 x39 (wrap64 (x40 + 1)) x202000 x202001 x202002 x202003 x202004 x202005 x202006 x202007 x202008 x202009 x202010 x202011 x202012 x202013 x202014 x202015 x202016 x202017 x202018 x202019 x202020 x202021 x202022 x202023 x202024 x202025 x202026)) else (spec_SharedParts.l0 k x4 x38 x39 (wrap64 (x40 + 1)) x202000 x202001 x202002 x202003 x202004 x202005 x202006 x202007 x202008 x202009 x202010 x202011 x202012 x202013 x202014 x202015 x202016 x202017 x202018 x202019 x202020 x202021 x202022 x202023 x202024 x202025 x202026)) else (none)) else (none)) else (some (x4, true))
def spec_SharedParts.f (k : Nat) (a0_0 a0_1 : Int) (a0_2 a0_3 a0_4 : Int) (a0_5 : Bool) (a0_6 a0_7 : Int) (a0_8 a0_9 : Int) (a0_10 : Bool) (a0_11 : ByteArray) (a0_12 : Int) (a0_13 : Bool) (a0_14 a0_15 : Int) (a0_16 a0_17 a0_18 : Int) (a0_19 : Bool) (a0_20 a0_21 : Int) (a0_22 a0_23 : Int) (a0_24 : Bool) (a0_25 : ByteArray) (a0_26 : Int) : Option (Int × Bool) := (spec_siGood.f k a0_0 a0_1 a0_2 a0_3 a0_4 a0_5 a0_6 a0_7 a0_8 a0_9 a0_10 a0_11 a0_12 a0_13 a0_14 a0_15 a0_16 a0_17 a0_18 a0_19 a0_20 a0_21 a0_22 a0_23 a0_24 a0_25 a0_26).bind fun t202 => (if t202 = true then ((some (([(a0_0 == a0_14 && (a0_1 == a0_15 && (a0_2 == a0_16 && (a0_3 == a0_17 && (a0_4 == a0_18 && (a0_5 == a0_19)))))), (a0_6 == a0_20 && (a0_7 == a0_21)), (a0_8 == a0_22 && (a0_9 == a0_23 && (a0_10 == a0_24))), (a0_11.toList == a0_25.toList && (a0_12 == a0_26))] : List Bool) : List Bool)).bind fun y203 => (spec_SharedParts.l0 k 0 y203 (y203.length : Int) 0 a0_0 a0_1 a0_2 a0_3 a0_4 a0_5 a0_6 a0_7 a0_8 a0_9 a0_10 a0_11 a0_12 a0_13 a0_14 a0_15 a0_16 a0_17 a0_18 a0_19 a0_20 a0_21 a0_22 a0_23 a0_24 a0_25 a0_26)) else (some (0, false)))
theorem spec_SharedParts.mono_l : ∀ k, (∀ y0 y1 y2 y3 y4 y5 y6 y7 y8 y9 y10 y11 y12 y13 y14 y15 y16 y17 y18 y19 y20 y21 y22 y23 y24 y25 y26 y27 y28 y29 y30, LeO (spec_SharedParts.l0 k y0 y1 y2 y3 y4 y5 y6 y7 y8 y9 y10 y11 y12 y13 y14 y15 y16 y17 y18 y19 y20 y21 y22 y23 y24 y25 y26 y27 y28 y29 y30) (spec_SharedParts.l0 (k + 1) y0 y1 y2 y3 y4 y5 y6 y7 y8 y9 y10 y11 y12 y13 y14 y15 y16 y17 y18 y19 y20 y21 y22 y23 y24 y25 y26 y27 y28 y29 y30))
 | 0 => fun _ _ _ _ _ _ _ _ _ _ _ _ _ _ _ _ _ _ _ _ _ _ _ _ _ _ _ _ _ _ _ r h => by simp [spec_SharedParts.l0] at h
 | k + 1 => by
  have ih0 := spec_SharedParts.mono_l k
  ·intro y0 y1 y2 y3 y4 y5 y6 y7 y8 y9 y10 y11 y12 y13 y14 y15 y16 y17 y18 y19 y20 y21 y22 y23 y24 y25 y26 y27 y28 y29 y30
   unfold spec_SharedParts.l0
   repeat' first
   | (with_reducible exact ih0 _ _ _ _ _ _ _ _ _ _ _ _ _ _ _ _ _ _ _ _ _ _ _ _ _ _ _ _ _ _ _)
   | (with_reducible exact spec_siGood.mono _ _ _ _ _ _ _ _ _ _ _ _ _ _ _ _ _ _ _ _ _ _ _ _ _ _ _ _)
   | (with_reducible exact LeO.refl _)
   | (with_reducible exact LeO.none _)
   | (with_reducible refine LeO.ite ?_ ?_)
   | (with_reducible refine LeO.bind ?_ (fun _ => ?_))
   | exact ih0 _ _ _ _ _ _ _ _ _ _ _ _ _ _ _ _ _ _ _ _ _ _ _ _ _ _ _ _ _ _ _
   | exact LeO.none _
   | refine LeO.ite ?_ ?_
   | refine LeO.bind ?_ (fun _ => ?_)
theorem spec_SharedParts.mono : ∀ a0 a1 a2 a3 a4 a5 a6 a7 a8 a9 a10 a11 a12 a13 a14 a15 a16 a17 a18 a19 a20 a21 a22 a23 a24 a25 a26 k, LeO (spec_SharedParts.f k a0 a1 a2 a3 a4 a5 a6 a7 a8 a9 a10 a11 a12 a13 a14 a15 a16 a17 a18 a19 a20 a21 a22 a23 a24 a25 a26) (spec_SharedParts.f (k + 1) a0 a1 a2 a3 a4 a5 a6 a7 a8 a9 a10 a11 a12 a13 a14 a15 a16 a17 a18 a19 a20 a21 a22 a23 a24 a25 a26) := by
 intro a0 a1 a2 a3 a4 a5 a6 a7 a8 a9 a10 a11 a12 a13 a14 a15 a16 a17 a18 a19 a20 a21 a22 a23 a24 a25 a26 k
 have ih0 := spec_SharedParts.mono_l k
 unfold spec_SharedParts.f
 repeat' first
   | (with_reducible exact ih0 _ _ _ _ _ _ _ _ _ _ _ _ _ _ _ _ _ _ _ _ _ _ _ _ _ _ _ _ _ _ _)
   | (with_reducible exact spec_siGood.mono _ _ _ _ _ _ _ _ _ _ _ _ _ _ _ _ _ _ _ _ _ _ _ _ _ _ _ _)
   | (with_reducible exact LeO.refl _)
   | (with_reducible exact LeO.none _)
   | (with_reducible refine LeO.ite ?_ ?_)
   | (with_reducible refine LeO.bind ?_ (fun _ => ?_))
   | exact ih0 _ _ _ _ _ _ _ _ _ _ _ _ _ _ _ _ _ _ _ _ _ _ _ _ _ _ _ _ _ _ _
   | exact LeO.none _
   | refine LeO.ite ?_ ?_
   | refine LeO.bind ?_ (fun _ => ?_)
def spec_SharedParts.T4 : Bool × List (List Nat × List Nat) := (true, [([], []), ([0], [0]), ([1], [1]), ([], []), ([3], [3]), ([4], [4]), ([2, 5], [2, 5]), ([], []), ([7], [7]), ([8], [8]), ([], []), ([10], [10]), ([11], [11]), ([9, 12], [9, 12]), ([], []), ([14], [14]), ([15], [15]), ([], []), ([17], [17]), ([18], [18]), ([16, 19], [16, 19]), ([], []), ([21], [21]), ([22], [22]), ([], []), ([24], [24]), ([25], [25]), ([23, 26], [23, 26]), ([6, 13, 20, 27], [6, 13, 20, 27]), ([28], [28]), ([], [])])
def spec_SharedParts.B4 : List Nat := [0, 1, 3, 0, 8, 24, 63, 0, 128, 384, 0, 1024, 3072, 8064, 0, 16384, 49152, 0, 131072, 393216, 1032192, 0, 2097152, 6291456, 0, 16777216, 50331648, 132120576, 268435455, 536870911, 0]
theorem spec_SharedParts.tab4 : rtab .any (opsOf Tryz.f10 4) = spec_SharedParts.T4 := by kernel_rfl
theorem spec_SharedParts.bits4 : waitsOk spec_SharedParts.T4.2 spec_SharedParts.B4 = true := by kernel_rfl
abbrev spec_SharedParts.S0 (z0_ : Nat) (z1_ z2_ : Int) (z3_ z4_ : Int) (z5_ z6_ : Int) (z7_ z8_ : Int) (z9_ z10_ : Int) (z11_ z12_ : Int) (z13_ z14_ : Int) (z15_ z16_ : Int) (z17_ z18_ : Int) (z19_ z20_ : Int) (z21_ z22_ : Bool) (z23_ z24_ z25_ : Bool) (z26_ z27_ : ByteArray) : World → Prop := fun w' => w'.cell? ⟨z0_, 0, none⟩ = some (.int .i64 z1_) ∧ w'.cell? ⟨z0_, 1, none⟩ = some (.int .i64 z2_) ∧ w'.cell? ⟨z0_, 2, none⟩ = some (.int .i64 z3_) ∧ w'.cell? ⟨z0_, 3, none⟩ = some (.int .i64 z4_) ∧ w'.cell? ⟨z0_, 4, none⟩ = some (.int .i64 z5_) ∧ w'.cell? ⟨z0_, 5, none⟩ = some (.bool z21_) ∧ w'.cell? ⟨z0_, 6, none⟩ = some (.int .i64 z6_) ∧ w'.cell? ⟨z0_, 7, none⟩ = some (.int .i64 z7_) ∧ w'.cell? ⟨z0_, 8, none⟩ = some (.int .i64 z8_) ∧ w'.cell? ⟨z0_, 9, none⟩ = some (.int .i64 z9_) ∧ w'.cell? ⟨z0_, 10, none⟩ = some (.bool z22_) ∧ w'.cell? ⟨z0_, 11, none⟩ = some (.string z26_) ∧ w'.cell? ⟨z0_, 12, none⟩ = some (.int .i64 z10_) ∧ w'.cell? ⟨z0_, 13, none⟩ = some (.bool z23_) ∧ w'.cell? ⟨z0_, 14, none⟩ = some (.int .i64 z11_) ∧ w'.cell? ⟨z0_, 15, none⟩ = some (.int .i64 z12_) ∧ w'.cell? ⟨z0_, 16, none⟩ = some (.int .i64 z13_) ∧ w'.cell? ⟨z0_, 17, none⟩ = some (.int .i64 z14_) ∧ w'.cell? ⟨z0_, 18, none⟩ = some (.int .i64 z15_) ∧ w'.cell? ⟨z0_, 19, none⟩ = some (.bool z24_) ∧ w'.cell? ⟨z0_, 20, none⟩ = some (.int .i64 z16_) ∧ w'.cell? ⟨z0_, 21, none⟩ = some (.int .i64 z17_) ∧ w'.cell? ⟨z0_, 22, none⟩ = some (.int .i64 z18_) ∧ w'.cell? ⟨z0_, 23, none⟩ = some (.int .i64 z19_) ∧ w'.cell? ⟨z0_, 24, none⟩ = some (.bool z25_) ∧ w'.cell? ⟨z0_, 25, none⟩ = some (.string z27_) ∧ w'.cell? ⟨z0_, 26, none⟩ = some (.int .i64 z20_)
set_option maxHeartbeats 8000000 in
set_option maxRecDepth 100000 in
theorem spec_SharedParts.calls (k : Nat) (a0_0 a0_1 : Int) (a0_2 a0_3 a0_4 : Int) (a0_5 : Bool) (a0_6 a0_7 : Int) (a0_8 a0_9 : Int) (a0_10 : Bool) (a0_11 : ByteArray) (a0_12 : Int) (a0_13 : Bool) (a0_14 a0_15 : Int) (a0_16 a0_17 a0_18 : Int) (a0_19 : Bool) (a0_20 a0_21 : Int) (a0_22 a0_23 : Int) (a0_24 : Bool) (a0_25 : ByteArray) (a0_26 r1 : Int) (r2 : Bool) (w : World) (h : spec_SharedParts.f k a0_0 a0_1 a0_2 a0_3 a0_4 a0_5 a0_6 a0_7 a0_8 a0_9 a0_10 a0_11 a0_12 a0_13 a0_14 a0_15 a0_16 a0_17 a0_18 a0_19 a0_20 a0_21 a0_22 a0_23 a0_24 a0_25 a0_26 = some (r1, r2)) :
  Calls Tryz.prog 10 #[.agg #[.int .i64 a0_0, .int .i64 a0_1, .int .i64 a0_2, .int .i64 a0_3, .int .i64 a0_4, .bool a0_5, .int .i64 a0_6, .int .i64 a0_7, .int .i64 a0_8, .int .i64 a0_9, .bool a0_10, .string a0_11, .int .i64 a0_12, .bool a0_13, .int .i64 a0_14, .int .i64 a0_15, .int .i64 a0_16, .int .i64 a0_17, .int .i64 a0_18, .bool a0_19, .int .i64 a0_20, .int .i64 a0_21, .int .i64 a0_22, .int .i64 a0_23, .bool a0_24, .string a0_25, .int .i64 a0_26]] w fun e w' => e = .returned (.tuple #[.int .i64 r1, .bool r2]) ∧ Below w.heap.size w w' := by
 have hu44 := Tryz.underlying44
 have hu37 := Tryz.underlying37
 have hu38 := Tryz.underlying38
 have hu39 := Tryz.underlying39
 have hu40 := Tryz.underlying40
 have HB := am_ (Below.refl w.heap.size w)
 have H : ((spec_siGood.f k a0_0 a0_1 a0_2 a0_3 a0_4 a0_5 a0_6 a0_7 a0_8 a0_9 a0_10 a0_11 a0_12 a0_13 a0_14 a0_15 a0_16 a0_17 a0_18 a0_19 a0_20 a0_21 a0_22 a0_23 a0_24 a0_25 a0_26).bind fun t202 => (if t202 = true then ((some (([(a0_0 == a0_14 && (a0_1 == a0_15 && (a0_2 == a0_16 && (a0_3 == a0_17 && (a0_4 == a0_18 && (a0_5 == a0_19)))))), (a0_6 == a0_20 && (a0_7 == a0_21)), (a0_8 == a0_22 && (a0_9 == a0_23 && (a0_10 == a0_24))), (a0_11.toList == a0_25.toList && (a0_12 == a0_26))] : List Bool) : List Bool)).bind fun y203 => (spec_SharedParts.l0 k 0 y203 (y203.length : Int) 0 a0_0 a0_1 a0_2 a0_3 a0_4 a0_5 a0_6 a0_7 a0_8 a0_9 a0_10 a0_11 a0_12 a0_13 a0_14 a0_15 a0_16 a0_17 a0_18 a0_19 a0_20 a0_21 a0_22 a0_23 a0_24 a0_25 a0_26)) else (some (0, false)))) = some (r1, r2) := h
 clear h
 replace H := Option.bind_eq_some_iff.mp H
 obtain ⟨t202, A20, H⟩ := H
 try dsimp only at H
 have A2 := Aside0.mk A20
 clear A20
 by_cases c3 : t202 = true
 ·subst c3
  have H1 : ((some (([(a0_0 == a0_14 && (a0_1 == a0_15 && (a0_2 == a0_16 && (a0_3 == a0_17 && (a0_4 == a0_18 && (a0_5 == a0_19)))))), (a0_6 == a0_20 && (a0_7 == a0_21)), (a0_8 == a0_22 && (a0_9 == a0_23 && (a0_10 == a0_24))), (a0_11.toList == a0_25.toList && (a0_12 == a0_26))] : List Bool) : List Bool)).bind fun y203 => (spec_SharedParts.l0 k 0 y203 (y203.length : Int) 0 a0_0 a0_1 a0_2 a0_3 a0_4 a0_5 a0_6 a0_7 a0_8 a0_9 a0_10 a0_11 a0_12 a0_13 a0_14 a0_15 a0_16 a0_17 a0_18 a0_19 a0_20 a0_21 a0_22 a0_23 a0_24 a0_25 a0_26)) = some (r1, r2) := by rw [if_pos rfl] at H; exact H
  clear H
  have H := H1
  clear H1
  obtain ⟨y203, hy203⟩ : ∃ y_ : List Bool, y_ = (([(a0_0 == a0_14 && (a0_1 == a0_15 && (a0_2 == a0_16 && (a0_3 == a0_17 && (a0_4 == a0_18 && (a0_5 == a0_19)))))), (a0_6 == a0_20 && (a0_7 == a0_21)), (a0_8 == a0_22 && (a0_9 == a0_23 && (a0_10 == a0_24))), (a0_11.toList == a0_25.toList && (a0_12 == a0_26))] : List Bool)) := ⟨_, rfl⟩
  replace H : (spec_SharedParts.l0 k 0 y203 (y203.length : Int) 0 a0_0 a0_1 a0_2 a0_3 a0_4 a0_5 a0_6 a0_7 a0_8 a0_9 a0_10 a0_11 a0_12 a0_13 a0_14 a0_15 a0_16 a0_17 a0_18 a0_19 a0_20 a0_21 a0_22 a0_23 a0_24 a0_25 a0_26) = some (r1, r2) := by first | (rw [hy203]; with_reducible exact H) | (have H2_ := (Option.bind_some _ _).symm.trans H; rw [hy203]; with_reducible exact H2_) | (have H2_ := (Option.bind_some _ _).symm.trans H; with_reducible exact H2_) | with_reducible exact H | (rw [hy203]; exact H) | exact H
  have Ny203 := Aside0.mk hy203
  clear hy203
  have H' := Aside0.mk H
  clear H
  go_enter Tryz.func10, Tryz.ntmps10
  try go_wp2_with (first | ((with_reducible refine gate_dst (N := 7) rfl ?_); (try (refine gate_guard (by rfl) ?_; dsimp only)); refine lq_ BK201 44 1 ?_) | ((with_reducible refine gate_dst (N := 12) rfl ?_); (try (refine gate_guard (by rfl) ?_; dsimp only)); refine lp_ BK201 37 11 0 [.int .i64 a0_0, .int .i64 a0_1, .int .i64 a0_2, .int .i64 a0_3, .int .i64 a0_4, .bool a0_5] ?_) | ((with_reducible refine gate_dst (N := 15) rfl ?_); (try (refine gate_guard (by rfl) ?_; dsimp only)); refine lp_ BK201 37 14 14 [.int .i64 a0_14, .int .i64 a0_15, .int .i64 a0_16, .int .i64 a0_17, .int .i64 a0_18, .bool a0_19] ?_) | ((with_reducible refine gate_dst (N := 19) rfl ?_); (try (refine gate_guard (by rfl) ?_; dsimp only)); refine lp_ BK201 38 18 6 [.int .i64 a0_6, .int .i64 a0_7] ?_) | ((with_reducible refine gate_dst (N := 22) rfl ?_); (try (refine gate_guard (by rfl) ?_; dsimp only)); refine lp_ BK201 38 21 20 [.int .i64 a0_20, .int .i64 a0_21] ?_) | ((with_reducible refine gate_dst (N := 26) rfl ?_); (try (refine gate_guard (by rfl) ?_; dsimp only)); refine lp_ BK201 39 25 8 [.int .i64 a0_8, .int .i64 a0_9, .bool a0_10] ?_) | ((with_reducible refine gate_dst (N := 29) rfl ?_); (try (refine gate_guard (by rfl) ?_; dsimp only)); refine lp_ BK201 39 28 22 [.int .i64 a0_22, .int .i64 a0_23, .bool a0_24] ?_) | ((with_reducible refine gate_dst (N := 33) rfl ?_); (try (refine gate_guard (by rfl) ?_; dsimp only)); refine lp_ BK201 40 32 11 [.string a0_11, .int .i64 a0_12] ?_) | ((with_reducible refine gate_dst (N := 36) rfl ?_); (try (refine gate_guard (by rfl) ?_; dsimp only)); refine lp_ BK201 40 35 25 [.string a0_25, .int .i64 a0_26] ?_) | ((with_reducible refine gate_dst (N := 45) rfl ?_); (try (refine gate_guard (by rfl) ?_; dsimp only)); refine lo_ BK201 4 44 13 _ ?_) | ((with_reducible refine gate_dst (N := 1) rfl ?_); refine bx_ (cs := #[.int .i64 a0_0, .int .i64 a0_1, .int .i64 a0_2, .int .i64 a0_3, .int .i64 a0_4, .bool a0_5, .int .i64 a0_6, .int .i64 a0_7, .int .i64 a0_8, .int .i64 a0_9, .bool a0_10, .string a0_11, .int .i64 a0_12, .bool a0_13, .int .i64 a0_14, .int .i64 a0_15, .int .i64 a0_16, .int .i64 a0_17, .int .i64 a0_18, .bool a0_19, .int .i64 a0_20, .int .i64 a0_21, .int .i64 a0_22, .int .i64 a0_23, .bool a0_24, .string a0_25, .int .i64 a0_26]) (t := 44) ?_; intro gb201 hg w4 hbox hb; have BK201 := am_ (hbox); have GW201 := gz_ hg HB; have GE201 := gz_ hg HB; replace HB := am_ (bt_ HB hb); clear hb hbox hg) | ((with_reducible refine gate_callee (f := 26) rfl ?_); refine goesL_ (some 8) rfl rfl Tryz.func26 (by kernel_rfl) rfl #[.agg #[.int .i64 a0_0, .int .i64 a0_1, .int .i64 a0_2, .int .i64 a0_3, .int .i64 a0_4, .bool a0_5, .int .i64 a0_6, .int .i64 a0_7, .int .i64 a0_8, .int .i64 a0_9, .bool a0_10, .string a0_11, .int .i64 a0_12, .bool a0_13, .int .i64 a0_14, .int .i64 a0_15, .int .i64 a0_16, .int .i64 a0_17, .int .i64 a0_18, .bool a0_19, .int .i64 a0_20, .int .i64 a0_21, .int .i64 a0_22, .int .i64 a0_23, .bool a0_24, .string a0_25, .int .i64 a0_26]] rfl args_ ?_; (with_reducible refine (spec_siGood.calls (w := _) (h := A2.out)).mono ?_); rintro e w6 ⟨rfl, hb⟩; refine ⟨_, rfl, ?_⟩; replace BK201 := am_ (lb_ BK201 hb); replace HB := am_ (below_step (bb1_ HB GE201) hb); clear hb))
  replace BK201 := am_ (blk_drew BK201.out)
  replace HB := am_ (below_drew1 HB.out)
  refine start_ (n := 31) (S := spec_SharedParts.S0 gb201 a0_0 a0_1 a0_2 a0_3 a0_4 a0_6 a0_7 a0_8 a0_9 a0_12 a0_14 a0_15 a0_16 a0_17 a0_18 a0_20 a0_21 a0_22 a0_23 a0_26 a0_5 a0_10 a0_13 a0_19 a0_24 a0_11 a0_25) (ds := []) #[false, false, false, false, false, false, false, false, false, false, false, false, false, false, false, false, false, false, false, false, false, false, false, false, false, false, false, false, false, false, false] (by kernel_rfl) rfl rfl (by repeat' (first | apply And.intro | exact (blk_cell BK201.out _).trans rfl)) (fun hHeld => ?_); refine with_tabW spec_SharedParts.tab4 spec_SharedParts.bits4 (fun HT_ HW_ => ?_)
  generalize w6.drew = w7 at BK201 HB hHeld ⊢
  refine pu2_ (i := 0) (N := some 10) #[true, false, false, false, false, false, false, false, false, false, false, false, false, false, false, false, false, false, false, false, false, false, false, false, false, false, false, false, false, false, false] rfl rfl ?_
  refine pu2_ (i := 1) (N := some 11) #[true, true, false, false, false, false, false, false, false, false, false, false, false, false, false, false, false, false, false, false, false, false, false, false, false, false, false, false, false, false, false] rfl rfl ?_
  refine pu2_ (i := 3) (N := some 13) #[true, true, false, true, false, false, false, false, false, false, false, false, false, false, false, false, false, false, false, false, false, false, false, false, false, false, false, false, false, false, false] rfl rfl ?_
  refine pu2_ (i := 4) (N := some 14) #[true, true, false, true, true, false, false, false, false, false, false, false, false, false, false, false, false, false, false, false, false, false, false, false, false, false, false, false, false, false, false] rfl rfl ?_
  refine pu2_ (i := 7) (N := some 17) #[true, true, false, true, true, false, false, true, false, false, false, false, false, false, false, false, false, false, false, false, false, false, false, false, false, false, false, false, false, false, false] rfl rfl ?_
  refine pu2_ (i := 8) (N := some 18) #[true, true, false, true, true, false, false, true, true, false, false, false, false, false, false, false, false, false, false, false, false, false, false, false, false, false, false, false, false, false, false] rfl rfl ?_
  refine pu2_ (i := 10) (N := some 20) #[true, true, false, true, true, false, false, true, true, false, true, false, false, false, false, false, false, false, false, false, false, false, false, false, false, false, false, false, false, false, false] rfl rfl ?_
  refine pu2_ (i := 11) (N := some 21) #[true, true, false, true, true, false, false, true, true, false, true, true, false, false, false, false, false, false, false, false, false, false, false, false, false, false, false, false, false, false, false] rfl rfl ?_
  refine pu2_ (i := 14) (N := some 24) #[true, true, false, true, true, false, false, true, true, false, true, true, false, false, true, false, false, false, false, false, false, false, false, false, false, false, false, false, false, false, false] rfl rfl ?_
  refine pu2_ (i := 15) (N := some 25) #[true, true, false, true, true, false, false, true, true, false, true, true, false, false, true, true, false, false, false, false, false, false, false, false, false, false, false, false, false, false, false] rfl rfl ?_
  refine pu2_ (i := 17) (N := some 27) #[true, true, false, true, true, false, false, true, true, false, true, true, false, false, true, true, false, true, false, false, false, false, false, false, false, false, false, false, false, false, false] rfl rfl ?_
  refine pu2_ (i := 18) (N := some 28) #[true, true, false, true, true, false, false, true, true, false, true, true, false, false, true, true, false, true, true, false, false, false, false, false, false, false, false, false, false, false, false] rfl rfl ?_
  refine pu2_ (i := 21) (N := some 31) #[true, true, false, true, true, false, false, true, true, false, true, true, false, false, true, true, false, true, true, false, false, true, false, false, false, false, false, false, false, false, false] rfl rfl ?_
  refine pu2_ (i := 22) (N := some 32) #[true, true, false, true, true, false, false, true, true, false, true, true, false, false, true, true, false, true, true, false, false, true, true, false, false, false, false, false, false, false, false] rfl rfl ?_
  refine pu2_ (i := 24) (N := some 34) #[true, true, false, true, true, false, false, true, true, false, true, true, false, false, true, true, false, true, true, false, false, true, true, false, true, false, false, false, false, false, false] rfl rfl ?_
  refine pu2_ (i := 25) (N := some 35) #[true, true, false, true, true, false, false, true, true, false, true, true, false, false, true, true, false, true, true, false, false, true, true, false, true, true, false, false, false, false, false] rfl rfl ?_
  refine pu2_ (i := 30) (N := some 40) #[true, true, false, true, true, false, false, true, true, false, true, true, false, false, true, true, false, true, true, false, false, true, true, false, true, true, false, false, false, false, true] rfl rfl ?_
  refine tk2_ (i := 2) (N := some 12) #[true, true, true, true, true, false, false, true, true, false, true, true, false, false, true, true, false, true, true, false, false, true, true, false, true, true, false, false, false, false, true] rfl rfl hHeld ?_
  refine tk2_ (i := 5) (N := some 15) #[true, true, true, true, true, true, false, true, true, false, true, true, false, false, true, true, false, true, true, false, false, true, true, false, true, true, false, false, false, false, true] rfl rfl hHeld ?_
  refine pu2_ (i := 6) (N := some 16) #[true, true, true, true, true, true, true, true, true, false, true, true, false, false, true, true, false, true, true, false, false, true, true, false, true, true, false, false, false, false, true] rfl rfl ?_
  refine tk2_ (i := 9) (N := some 19) #[true, true, true, true, true, true, true, true, true, true, true, true, false, false, true, true, false, true, true, false, false, true, true, false, true, true, false, false, false, false, true] rfl rfl hHeld ?_
  refine tk2_ (i := 12) (N := some 22) #[true, true, true, true, true, true, true, true, true, true, true, true, true, false, true, true, false, true, true, false, false, true, true, false, true, true, false, false, false, false, true] rfl rfl hHeld ?_
  refine pu2_ (i := 13) (N := some 23) #[true, true, true, true, true, true, true, true, true, true, true, true, true, true, true, true, false, true, true, false, false, true, true, false, true, true, false, false, false, false, true] rfl rfl ?_
  refine tk2_ (i := 16) (N := some 26) #[true, true, true, true, true, true, true, true, true, true, true, true, true, true, true, true, true, true, true, false, false, true, true, false, true, true, false, false, false, false, true] rfl rfl hHeld ?_
  refine tk2_ (i := 19) (N := some 29) #[true, true, true, true, true, true, true, true, true, true, true, true, true, true, true, true, true, true, true, true, false, true, true, false, true, true, false, false, false, false, true] rfl rfl hHeld ?_
  refine pu2_ (i := 20) (N := some 30) #[true, true, true, true, true, true, true, true, true, true, true, true, true, true, true, true, true, true, true, true, true, true, true, false, true, true, false, false, false, false, true] rfl rfl ?_
  refine tk2_ (i := 23) (N := some 33) #[true, true, true, true, true, true, true, true, true, true, true, true, true, true, true, true, true, true, true, true, true, true, true, true, true, true, false, false, false, false, true] rfl rfl hHeld ?_
  refine tk2_ (i := 26) (N := some 36) #[true, true, true, true, true, true, true, true, true, true, true, true, true, true, true, true, true, true, true, true, true, true, true, true, true, true, true, false, false, false, true] rfl rfl hHeld ?_
  refine pu2_ (i := 27) (N := some 37) #[true, true, true, true, true, true, true, true, true, true, true, true, true, true, true, true, true, true, true, true, true, true, true, true, true, true, true, true, false, false, true] rfl rfl ?_
  refine one_ (i := 28) (N := some 38) #[true, true, true, true, true, true, true, true, true, true, true, true, true, true, true, true, true, true, true, true, true, true, true, true, true, true, true, true, true, false, true] rfl rfl (one_of HT_.out (by kernel_rfl)) (by decide) (fun K hK => ?_)
  refine Kd.R_lit_step Kd.bool _ 4 ?hg (N := 38) ?hd (xs := ([(a0_0 == a0_14 && (a0_1 == a0_15 && (a0_2 == a0_16 && (a0_3 == a0_17 && (a0_4 == a0_18 && (a0_5 == a0_19)))))), (a0_6 == a0_20 && (a0_7 == a0_21)), (a0_8 == a0_22 && (a0_9 == a0_23 && (a0_10 == a0_24))), (a0_11.toList == a0_25.toList && (a0_12 == a0_26))] : List Bool)) (inner := [.bool (a0_0 == a0_14 && (a0_1 == a0_15 && (a0_2 == a0_16 && (a0_3 == a0_17 && (a0_4 == a0_18 && (a0_5 == a0_19)))))), .bool (a0_6 == a0_20 && (a0_7 == a0_21)), .bool (a0_8 == a0_22 && (a0_9 == a0_23 && (a0_10 == a0_24))), .bool (a0_11.toList == a0_25.toList && (a0_12 == a0_26))]) (ok := fun _ => True) (okp := fun _ => True) ?hr ?hp (fun _ hk => hk) trivial (Below.refl _ _) (Nat.le_refl _) (by simp) ?_; (case hd => rfl); (case hg => rfl); (case hr => first | (go_simp; done) | (go_simp; rfl)); (case hp => exact (Reps.one (show Kd.M Kd.bool _ _ _ (a0_0 == a0_14 && (a0_1 == a0_15 && (a0_2 == a0_16 && (a0_3 == a0_17 && (a0_4 == a0_18 && (a0_5 == a0_19)))))) [.bool (a0_0 == a0_14 && (a0_1 == a0_15 && (a0_2 == a0_16 && (a0_3 == a0_17 && (a0_4 == a0_18 && (a0_5 == a0_19))))))] from rfl) (Reps.one (show Kd.M Kd.bool _ _ _ (a0_6 == a0_20 && (a0_7 == a0_21)) [.bool (a0_6 == a0_20 && (a0_7 == a0_21))] from rfl) (Reps.one (show Kd.M Kd.bool _ _ _ (a0_8 == a0_22 && (a0_9 == a0_23 && (a0_10 == a0_24))) [.bool (a0_8 == a0_22 && (a0_9 == a0_23 && (a0_10 == a0_24)))] from rfl) (Reps.one (show Kd.M Kd.bool _ _ _ (a0_11.toList == a0_25.toList && (a0_12 == a0_26)) [.bool (a0_11.toList == a0_25.toList && (a0_12 == a0_26))] from rfl) (Reps.none _ _))))))
  intro v204 w8 ho9 hb hg_ hnew_
  clear hg_ hnew_
  (first | rw [← Ny203.out] at ho9 | (simp only [Int.reduceToNat] at ho9; rw [← Ny203.out] at ho9))
  have HO205 := am_ (Kd.R_lower ho9 (below_size (bb1_ HB GE201)))
  replace BK201 := am_ (lb_ BK201 hb)
  replace HB := am_ (below_step (bb1_ HB GE201) hb)
  clear hb ho9
  obtain ⟨Ao10, co10, eo10⟩ := Kd.R_slice HO205.out
  (first | subst eo10 | (injection eo10 with f1_ f2_ f3_; have f4_ := f1_.symm; have f5_ := f3_.symm; clear f1_ f2_ f3_; subst f4_; subst f5_))
  refine hK.out _ _ (by repeat' (first | apply And.intro | exact (blk_cell BK201.out _).trans rfl)) (fun hHeld => ?_)
  clear hK K
  refine nm2_ ?_
  refine pu2_ (i := 29) (N := some 39) #[true, true, true, true, true, true, true, true, true, true, true, true, true, true, true, true, true, true, true, true, true, true, true, true, true, true, true, true, true, true, true] rfl rfl ?_
  refine done_ (done_of HT_.out (by kernel_rfl)) ?_
  try go_wp2_with (first | ((with_reducible refine gate_dst (N := 7) rfl ?_); (try (refine gate_guard (by rfl) ?_; dsimp only)); refine lq_ BK201 44 1 ?_) | ((with_reducible refine gate_dst (N := 12) rfl ?_); (try (refine gate_guard (by rfl) ?_; dsimp only)); refine lp_ BK201 37 11 0 [.int .i64 a0_0, .int .i64 a0_1, .int .i64 a0_2, .int .i64 a0_3, .int .i64 a0_4, .bool a0_5] ?_) | ((with_reducible refine gate_dst (N := 15) rfl ?_); (try (refine gate_guard (by rfl) ?_; dsimp only)); refine lp_ BK201 37 14 14 [.int .i64 a0_14, .int .i64 a0_15, .int .i64 a0_16, .int .i64 a0_17, .int .i64 a0_18, .bool a0_19] ?_) | ((with_reducible refine gate_dst (N := 19) rfl ?_); (try (refine gate_guard (by rfl) ?_; dsimp only)); refine lp_ BK201 38 18 6 [.int .i64 a0_6, .int .i64 a0_7] ?_) | ((with_reducible refine gate_dst (N := 22) rfl ?_); (try (refine gate_guard (by rfl) ?_; dsimp only)); refine lp_ BK201 38 21 20 [.int .i64 a0_20, .int .i64 a0_21] ?_) | ((with_reducible refine gate_dst (N := 26) rfl ?_); (try (refine gate_guard (by rfl) ?_; dsimp only)); refine lp_ BK201 39 25 8 [.int .i64 a0_8, .int .i64 a0_9, .bool a0_10] ?_) | ((with_reducible refine gate_dst (N := 29) rfl ?_); (try (refine gate_guard (by rfl) ?_; dsimp only)); refine lp_ BK201 39 28 22 [.int .i64 a0_22, .int .i64 a0_23, .bool a0_24] ?_) | ((with_reducible refine gate_dst (N := 33) rfl ?_); (try (refine gate_guard (by rfl) ?_; dsimp only)); refine lp_ BK201 40 32 11 [.string a0_11, .int .i64 a0_12] ?_) | ((with_reducible refine gate_dst (N := 36) rfl ?_); (try (refine gate_guard (by rfl) ?_; dsimp only)); refine lp_ BK201 40 35 25 [.string a0_25, .int .i64 a0_26] ?_) | ((with_reducible refine gate_dst (N := 45) rfl ?_); (try (refine gate_guard (by rfl) ?_; dsimp only)); refine lo_ BK201 4 44 13 _ ?_))
  go_loopg [4, 40] k (fun kq v4 v40 w' => ∃ (x4_1 : Int) (x40_1 : Int), v4 = .int .i64 x4_1 ∧ v40 = .int .i64 x40_1 ∧ Aside0 (spec_SharedParts.l0 kq x4_1 y203 (y203.length : Int) x40_1 a0_0 a0_1 a0_2 a0_3 a0_4 a0_5 a0_6 a0_7 a0_8 a0_9 a0_10 a0_11 a0_12 a0_13 a0_14 a0_15 a0_16 a0_17 a0_18 a0_19 a0_20 a0_21 a0_22 a0_23 a0_24 a0_25 a0_26 = some (r1, r2)) ∧ Aside0 (kq ≤ k) ∧ Aside0 (Kd.R Kd.bool 4 w' w.heap.size (fun _ => True) (.slice Ao10 y203.length co10) y203) ∧ Aside0 (w'.heap[gb201]? = some (.cells #[.int .i64 a0_0, .int .i64 a0_1, .int .i64 a0_2, .int .i64 a0_3, .int .i64 a0_4, .bool a0_5, .int .i64 a0_6, .int .i64 a0_7, .int .i64 a0_8, .int .i64 a0_9, .bool a0_10, .string a0_11, .int .i64 a0_12, .bool a0_13, .int .i64 a0_14, .int .i64 a0_15, .int .i64 a0_16, .int .i64 a0_17, .int .i64 a0_18, .bool a0_19, .int .i64 a0_20, .int .i64 a0_21, .int .i64 a0_22, .int .i64 a0_23, .bool a0_24, .string a0_25, .int .i64 a0_26] 44 (0, 0))) ∧ Aside0 (Below w.heap.size w w'))
  case atStart => exact ⟨(0), (0), (by first | rfl | (simp; done) | (simp [*]; done)), (by first | rfl | (simp; done) | (simp [*]; done)), H', ⟨Nat.le_refl _⟩, ⟨by (with_reducible repeat (first | apply rA_ | apply rN_ | apply rD_)); exact HO205.out⟩, ⟨by (with_reducible repeat (first | apply lN_ | apply lD_ | apply lA_)); exact BK201.out⟩, ⟨bb1_ HB GE201⟩⟩
  case round =>
   clear H'
   try clear c1
   try clear c2
   try clear p2
   try clear c3
   try clear c10
   obtain ⟨x4_1, x40_1, rfl, rfl, HA, HK1, HO_38, BK201, HB⟩ := hrel
   cases gk with
   | zero => exact absurd HA.out (by simp [spec_SharedParts.l0])
   | succ k1 =>
    have H := HA.out
    clear HA
    simp only [spec_SharedParts.l0] at H
    by_cases c11 : x40_1 < (y203.length : Int)
    ·rw [if_pos c11] at H
     have c11b0 : decide (x40_1 < (y203.length : Int)) = true := decide_eq_true c11
     clear c11
     by_cases c12 : 0 ≤ x40_1
     ·rw [if_pos c12] at H
      have c12b0 : decide (0 ≤ x40_1) = true := decide_eq_true c12
      clear c12
      by_cases c13 : x40_1 < (y203.length : Int)
      ·rw [if_pos c13] at H
       have c13b0 : decide (x40_1 < (y203.length : Int)) = true := decide_eq_true c13
       clear c13
       by_cases c14 : a0_13 = true
       ·subst c14
        have H1 : (if rdOf false y203 x40_1 = true then (spec_SharedParts.l0 k1 (wrap64 (x4_1 + 1)) y203 (y203.length : Int) (wrap64 (x40_1 + 1)) a0_0 a0_1 a0_2 a0_3 a0_4 a0_5 a0_6 a0_7 a0_8 a0_9 a0_10 a0_11 a0_12 true a0_14 a0_15 a0_16 a0_17 a0_18 a0_19 a0_20 a0_21 a0_22 a0_23 a0_24 a0_25 a0_26) else (spec_SharedParts.l0 k1 x4_1 y203 (y203.length : Int) (wrap64 (x40_1 + 1)) a0_0 a0_1 a0_2 a0_3 a0_4 a0_5 a0_6 a0_7 a0_8 a0_9 a0_10 a0_11 a0_12 true a0_14 a0_15 a0_16 a0_17 a0_18 a0_19 a0_20 a0_21 a0_22 a0_23 a0_24 a0_25 a0_26)) = some (r1, r2) := by rw [if_pos rfl] at H; exact H
        clear H
        have H := H1
        clear H1
        obtain ⟨bq15, hbq15⟩ : ∃ b_ : Bool, b_ = (rdOf false y203 x40_1) := ⟨_, rfl⟩
        replace H : (if bq15 = true then (spec_SharedParts.l0 k1 (wrap64 (x4_1 + 1)) y203 (y203.length : Int) (wrap64 (x40_1 + 1)) a0_0 a0_1 a0_2 a0_3 a0_4 a0_5 a0_6 a0_7 a0_8 a0_9 a0_10 a0_11 a0_12 true a0_14 a0_15 a0_16 a0_17 a0_18 a0_19 a0_20 a0_21 a0_22 a0_23 a0_24 a0_25 a0_26) else (spec_SharedParts.l0 k1 x4_1 y203 (y203.length : Int) (wrap64 (x40_1 + 1)) a0_0 a0_1 a0_2 a0_3 a0_4 a0_5 a0_6 a0_7 a0_8 a0_9 a0_10 a0_11 a0_12 true a0_14 a0_15 a0_16 a0_17 a0_18 a0_19 a0_20 a0_21 a0_22 a0_23 a0_24 a0_25 a0_26)) = some (r1, r2) := by rw [← hbq15] at H; exact H
        have Nbq15 := Aside0.mk hbq15
        clear hbq15
        by_cases c16 : bq15 = true
        ·subst c16
         have H1 : (spec_SharedParts.l0 k1 (wrap64 (x4_1 + 1)) y203 (y203.length : Int) (wrap64 (x40_1 + 1)) a0_0 a0_1 a0_2 a0_3 a0_4 a0_5 a0_6 a0_7 a0_8 a0_9 a0_10 a0_11 a0_12 true a0_14 a0_15 a0_16 a0_17 a0_18 a0_19 a0_20 a0_21 a0_22 a0_23 a0_24 a0_25 a0_26) = some (r1, r2) := by rw [if_pos rfl] at H; exact H
         clear H
         have H := H1
         clear H1
         have H' := Aside0.mk H
         clear H
         have p206 : 0 ≤ (x40_1 : Int) := of_decide_eq_true as_
         have q206 : x40_1 < (y203.length : Int) := of_decide_eq_true as_
         obtain ⟨ad206, e206, hx206_0⟩ := Kd.at_bool (Kd.R_reads' HO_38.out).2.2 x40_1 p206 q206
         (try rw [← Nbq15.out] at hx206_0)
         cases e206
         replace p206 := eq_true p206
         replace q206 := eq_true q206
         go_wp2_with (first | ((with_reducible refine gate_dst (N := 7) rfl ?_); (try (refine gate_guard (by rfl) ?_; dsimp only)); refine lq_ BK201 44 1 ?_) | ((with_reducible refine gate_dst (N := 12) rfl ?_); (try (refine gate_guard (by rfl) ?_; dsimp only)); refine lp_ BK201 37 11 0 [.int .i64 a0_0, .int .i64 a0_1, .int .i64 a0_2, .int .i64 a0_3, .int .i64 a0_4, .bool a0_5] ?_) | ((with_reducible refine gate_dst (N := 15) rfl ?_); (try (refine gate_guard (by rfl) ?_; dsimp only)); refine lp_ BK201 37 14 14 [.int .i64 a0_14, .int .i64 a0_15, .int .i64 a0_16, .int .i64 a0_17, .int .i64 a0_18, .bool a0_19] ?_) | ((with_reducible refine gate_dst (N := 19) rfl ?_); (try (refine gate_guard (by rfl) ?_; dsimp only)); refine lp_ BK201 38 18 6 [.int .i64 a0_6, .int .i64 a0_7] ?_) | ((with_reducible refine gate_dst (N := 22) rfl ?_); (try (refine gate_guard (by rfl) ?_; dsimp only)); refine lp_ BK201 38 21 20 [.int .i64 a0_20, .int .i64 a0_21] ?_) | ((with_reducible refine gate_dst (N := 26) rfl ?_); (try (refine gate_guard (by rfl) ?_; dsimp only)); refine lp_ BK201 39 25 8 [.int .i64 a0_8, .int .i64 a0_9, .bool a0_10] ?_) | ((with_reducible refine gate_dst (N := 29) rfl ?_); (try (refine gate_guard (by rfl) ?_; dsimp only)); refine lp_ BK201 39 28 22 [.int .i64 a0_22, .int .i64 a0_23, .bool a0_24] ?_) | ((with_reducible refine gate_dst (N := 33) rfl ?_); (try (refine gate_guard (by rfl) ?_; dsimp only)); refine lp_ BK201 40 32 11 [.string a0_11, .int .i64 a0_12] ?_) | ((with_reducible refine gate_dst (N := 36) rfl ?_); (try (refine gate_guard (by rfl) ?_; dsimp only)); refine lp_ BK201 40 35 25 [.string a0_25, .int .i64 a0_26] ?_) | ((with_reducible refine gate_dst (N := 45) rfl ?_); (try (refine gate_guard (by rfl) ?_; dsimp only)); refine lo_ BK201 4 44 13 _ ?_))
         go_roundg k1
         case measure => have := HK1.out; omega
         case rel => exact ⟨(wrap64 (x4_1 + 1)), (wrap64 (x40_1 + 1)), (by first | rfl | (simp; done) | (simp [*]; done)), (by first | rfl | (simp; done) | (simp [*]; done)), H', ⟨by have := HK1.out; omega⟩, ⟨by (with_reducible repeat (first | apply rA_ | apply rN_ | apply rD_)); exact HO_38.out⟩, ⟨by (with_reducible repeat (first | apply lN_ | apply lD_ | apply lA_)); exact BK201.out⟩, ⟨bb1_ HB GE201⟩⟩
        ·replace c16 := Bool.eq_false_iff.mpr c16
         subst c16
         have H1 : (spec_SharedParts.l0 k1 x4_1 y203 (y203.length : Int) (wrap64 (x40_1 + 1)) a0_0 a0_1 a0_2 a0_3 a0_4 a0_5 a0_6 a0_7 a0_8 a0_9 a0_10 a0_11 a0_12 true a0_14 a0_15 a0_16 a0_17 a0_18 a0_19 a0_20 a0_21 a0_22 a0_23 a0_24 a0_25 a0_26) = some (r1, r2) := by rw [if_neg (show ¬ (false = true) by decide)] at H; exact H
         clear H
         have H := H1
         clear H1
         have H' := Aside0.mk H
         clear H
         have p206 : 0 ≤ (x40_1 : Int) := of_decide_eq_true as_
         have q206 : x40_1 < (y203.length : Int) := of_decide_eq_true as_
         obtain ⟨ad206, e206, hx206_0⟩ := Kd.at_bool (Kd.R_reads' HO_38.out).2.2 x40_1 p206 q206
         (try rw [← Nbq15.out] at hx206_0)
         cases e206
         replace p206 := eq_true p206
         replace q206 := eq_true q206
         go_wp2_with (first | ((with_reducible refine gate_dst (N := 7) rfl ?_); (try (refine gate_guard (by rfl) ?_; dsimp only)); refine lq_ BK201 44 1 ?_) | ((with_reducible refine gate_dst (N := 12) rfl ?_); (try (refine gate_guard (by rfl) ?_; dsimp only)); refine lp_ BK201 37 11 0 [.int .i64 a0_0, .int .i64 a0_1, .int .i64 a0_2, .int .i64 a0_3, .int .i64 a0_4, .bool a0_5] ?_) | ((with_reducible refine gate_dst (N := 15) rfl ?_); (try (refine gate_guard (by rfl) ?_; dsimp only)); refine lp_ BK201 37 14 14 [.int .i64 a0_14, .int .i64 a0_15, .int .i64 a0_16, .int .i64 a0_17, .int .i64 a0_18, .bool a0_19] ?_) | ((with_reducible refine gate_dst (N := 19) rfl ?_); (try (refine gate_guard (by rfl) ?_; dsimp only)); refine lp_ BK201 38 18 6 [.int .i64 a0_6, .int .i64 a0_7] ?_) | ((with_reducible refine gate_dst (N := 22) rfl ?_); (try (refine gate_guard (by rfl) ?_; dsimp only)); refine lp_ BK201 38 21 20 [.int .i64 a0_20, .int .i64 a0_21] ?_) | ((with_reducible refine gate_dst (N := 26) rfl ?_); (try (refine gate_guard (by rfl) ?_; dsimp only)); refine lp_ BK201 39 25 8 [.int .i64 a0_8, .int .i64 a0_9, .bool a0_10] ?_) | ((with_reducible refine gate_dst (N := 29) rfl ?_); (try (refine gate_guard (by rfl) ?_; dsimp only)); refine lp_ BK201 39 28 22 [.int .i64 a0_22, .int .i64 a0_23, .bool a0_24] ?_) | ((with_reducible refine gate_dst (N := 33) rfl ?_); (try (refine gate_guard (by rfl) ?_; dsimp only)); refine lp_ BK201 40 32 11 [.string a0_11, .int .i64 a0_12] ?_) | ((with_reducible refine gate_dst (N := 36) rfl ?_); (try (refine gate_guard (by rfl) ?_; dsimp only)); refine lp_ BK201 40 35 25 [.string a0_25, .int .i64 a0_26] ?_) | ((with_reducible refine gate_dst (N := 45) rfl ?_); (try (refine gate_guard (by rfl) ?_; dsimp only)); refine lo_ BK201 4 44 13 _ ?_))
         go_roundg k1
         case measure => have := HK1.out; omega
         case rel => exact ⟨(x4_1), (wrap64 (x40_1 + 1)), (by first | rfl | (simp; done) | (simp [*]; done)), (by first | rfl | (simp; done) | (simp [*]; done)), H', ⟨by have := HK1.out; omega⟩, ⟨by (with_reducible repeat (first | apply rA_ | apply rN_ | apply rD_)); exact HO_38.out⟩, ⟨by (with_reducible repeat (first | apply lN_ | apply lD_ | apply lA_)); exact BK201.out⟩, ⟨bb1_ HB GE201⟩⟩
       ·replace c14 := Bool.eq_false_iff.mpr c14
        subst c14
        have H1 : (spec_SharedParts.l0 k1 x4_1 y203 (y203.length : Int) (wrap64 (x40_1 + 1)) a0_0 a0_1 a0_2 a0_3 a0_4 a0_5 a0_6 a0_7 a0_8 a0_9 a0_10 a0_11 a0_12 false a0_14 a0_15 a0_16 a0_17 a0_18 a0_19 a0_20 a0_21 a0_22 a0_23 a0_24 a0_25 a0_26) = some (r1, r2) := by rw [if_neg (show ¬ (false = true) by decide)] at H; exact H
        clear H
        have H := H1
        clear H1
        have H' := Aside0.mk H
        clear H
        have p206 : 0 ≤ (x40_1 : Int) := of_decide_eq_true as_
        have q206 : x40_1 < (y203.length : Int) := of_decide_eq_true as_
        obtain ⟨ad206, e206, hx206_0⟩ := Kd.at_bool (Kd.R_reads' HO_38.out).2.2 x40_1 p206 q206
        cases e206
        replace p206 := eq_true p206
        replace q206 := eq_true q206
        go_wp2_with (first | ((with_reducible refine gate_dst (N := 7) rfl ?_); (try (refine gate_guard (by rfl) ?_; dsimp only)); refine lq_ BK201 44 1 ?_) | ((with_reducible refine gate_dst (N := 12) rfl ?_); (try (refine gate_guard (by rfl) ?_; dsimp only)); refine lp_ BK201 37 11 0 [.int .i64 a0_0, .int .i64 a0_1, .int .i64 a0_2, .int .i64 a0_3, .int .i64 a0_4, .bool a0_5] ?_) | ((with_reducible refine gate_dst (N := 15) rfl ?_); (try (refine gate_guard (by rfl) ?_; dsimp only)); refine lp_ BK201 37 14 14 [.int .i64 a0_14, .int .i64 a0_15, .int .i64 a0_16, .int .i64 a0_17, .int .i64 a0_18, .bool a0_19] ?_) | ((with_reducible refine gate_dst (N := 19) rfl ?_); (try (refine gate_guard (by rfl) ?_; dsimp only)); refine lp_ BK201 38 18 6 [.int .i64 a0_6, .int .i64 a0_7] ?_) | ((with_reducible refine gate_dst (N := 22) rfl ?_); (try (refine gate_guard (by rfl) ?_; dsimp only)); refine lp_ BK201 38 21 20 [.int .i64 a0_20, .int .i64 a0_21] ?_) | ((with_reducible refine gate_dst (N := 26) rfl ?_); (try (refine gate_guard (by rfl) ?_; dsimp only)); refine lp_ BK201 39 25 8 [.int .i64 a0_8, .int .i64 a0_9, .bool a0_10] ?_) | ((with_reducible refine gate_dst (N := 29) rfl ?_); (try (refine gate_guard (by rfl) ?_; dsimp only)); refine lp_ BK201 39 28 22 [.int .i64 a0_22, .int .i64 a0_23, .bool a0_24] ?_) | ((with_reducible refine gate_dst (N := 33) rfl ?_); (try (refine gate_guard (by rfl) ?_; dsimp only)); refine lp_ BK201 40 32 11 [.string a0_11, .int .i64 a0_12] ?_) | ((with_reducible refine gate_dst (N := 36) rfl ?_); (try (refine gate_guard (by rfl) ?_; dsimp only)); refine lp_ BK201 40 35 25 [.string a0_25, .int .i64 a0_26] ?_) | ((with_reducible refine gate_dst (N := 45) rfl ?_); (try (refine gate_guard (by rfl) ?_; dsimp only)); refine lo_ BK201 4 44 13 _ ?_))
        go_roundg k1
        case measure => have := HK1.out; omega
        case rel => exact ⟨(x4_1), (wrap64 (x40_1 + 1)), (by first | rfl | (simp; done) | (simp [*]; done)), (by first | rfl | (simp; done) | (simp [*]; done)), H', ⟨by have := HK1.out; omega⟩, ⟨by (with_reducible repeat (first | apply rA_ | apply rN_ | apply rD_)); exact HO_38.out⟩, ⟨by (with_reducible repeat (first | apply lN_ | apply lD_ | apply lA_)); exact BK201.out⟩, ⟨bb1_ HB GE201⟩⟩
      ·rw [if_neg c13] at H
       exact absurd H (by simp)
     ·rw [if_neg c12] at H
      exact absurd H (by simp)
    ·rw [if_neg c11] at H
     have c11b0 : decide (x40_1 < (y203.length : Int)) = false := decide_eq_false c11
     clear c11
     simp only [Option.some.injEq, Prod.mk.injEq] at H
     obtain ⟨rfl, rfl⟩ := H
     go_wp2_with (first | ((with_reducible refine gate_dst (N := 7) rfl ?_); (try (refine gate_guard (by rfl) ?_; dsimp only)); refine lq_ BK201 44 1 ?_) | ((with_reducible refine gate_dst (N := 12) rfl ?_); (try (refine gate_guard (by rfl) ?_; dsimp only)); refine lp_ BK201 37 11 0 [.int .i64 a0_0, .int .i64 a0_1, .int .i64 a0_2, .int .i64 a0_3, .int .i64 a0_4, .bool a0_5] ?_) | ((with_reducible refine gate_dst (N := 15) rfl ?_); (try (refine gate_guard (by rfl) ?_; dsimp only)); refine lp_ BK201 37 14 14 [.int .i64 a0_14, .int .i64 a0_15, .int .i64 a0_16, .int .i64 a0_17, .int .i64 a0_18, .bool a0_19] ?_) | ((with_reducible refine gate_dst (N := 19) rfl ?_); (try (refine gate_guard (by rfl) ?_; dsimp only)); refine lp_ BK201 38 18 6 [.int .i64 a0_6, .int .i64 a0_7] ?_) | ((with_reducible refine gate_dst (N := 22) rfl ?_); (try (refine gate_guard (by rfl) ?_; dsimp only)); refine lp_ BK201 38 21 20 [.int .i64 a0_20, .int .i64 a0_21] ?_) | ((with_reducible refine gate_dst (N := 26) rfl ?_); (try (refine gate_guard (by rfl) ?_; dsimp only)); refine lp_ BK201 39 25 8 [.int .i64 a0_8, .int .i64 a0_9, .bool a0_10] ?_) | ((with_reducible refine gate_dst (N := 29) rfl ?_); (try (refine gate_guard (by rfl) ?_; dsimp only)); refine lp_ BK201 39 28 22 [.int .i64 a0_22, .int .i64 a0_23, .bool a0_24] ?_) | ((with_reducible refine gate_dst (N := 33) rfl ?_); (try (refine gate_guard (by rfl) ?_; dsimp only)); refine lp_ BK201 40 32 11 [.string a0_11, .int .i64 a0_12] ?_) | ((with_reducible refine gate_dst (N := 36) rfl ?_); (try (refine gate_guard (by rfl) ?_; dsimp only)); refine lp_ BK201 40 35 25 [.string a0_25, .int .i64 a0_26] ?_) | ((with_reducible refine gate_dst (N := 45) rfl ?_); (try (refine gate_guard (by rfl) ?_; dsimp only)); refine lo_ BK201 4 44 13 _ ?_))
     go_ret2
     exact ⟨ew_, bb1_ HB GE201⟩
 ·replace c3 := Bool.eq_false_iff.mpr c3
  subst c3
  have H1 : (some (0, false)) = some (r1, r2) := by rw [if_neg (show ¬ (false = true) by decide)] at H; exact H
  clear H
  have H := H1
  clear H1
  simp only [Option.some.injEq, Prod.mk.injEq] at H
  obtain ⟨rfl, rfl⟩ := H
  go_enter Tryz.func10, Tryz.ntmps10
  go_wp2_with (first | ((with_reducible refine gate_dst (N := 7) rfl ?_); (try (refine gate_guard (by rfl) ?_; dsimp only)); refine lq_ BK201 44 1 ?_) | ((with_reducible refine gate_dst (N := 12) rfl ?_); (try (refine gate_guard (by rfl) ?_; dsimp only)); refine lp_ BK201 37 11 0 [.int .i64 a0_0, .int .i64 a0_1, .int .i64 a0_2, .int .i64 a0_3, .int .i64 a0_4, .bool a0_5] ?_) | ((with_reducible refine gate_dst (N := 15) rfl ?_); (try (refine gate_guard (by rfl) ?_; dsimp only)); refine lp_ BK201 37 14 14 [.int .i64 a0_14, .int .i64 a0_15, .int .i64 a0_16, .int .i64 a0_17, .int .i64 a0_18, .bool a0_19] ?_) | ((with_reducible refine gate_dst (N := 19) rfl ?_); (try (refine gate_guard (by rfl) ?_; dsimp only)); refine lp_ BK201 38 18 6 [.int .i64 a0_6, .int .i64 a0_7] ?_) | ((with_reducible refine gate_dst (N := 22) rfl ?_); (try (refine gate_guard (by rfl) ?_; dsimp only)); refine lp_ BK201 38 21 20 [.int .i64 a0_20, .int .i64 a0_21] ?_) | ((with_reducible refine gate_dst (N := 26) rfl ?_); (try (refine gate_guard (by rfl) ?_; dsimp only)); refine lp_ BK201 39 25 8 [.int .i64 a0_8, .int .i64 a0_9, .bool a0_10] ?_) | ((with_reducible refine gate_dst (N := 29) rfl ?_); (try (refine gate_guard (by rfl) ?_; dsimp only)); refine lp_ BK201 39 28 22 [.int .i64 a0_22, .int .i64 a0_23, .bool a0_24] ?_) | ((with_reducible refine gate_dst (N := 33) rfl ?_); (try (refine gate_guard (by rfl) ?_; dsimp only)); refine lp_ BK201 40 32 11 [.string a0_11, .int .i64 a0_12] ?_) | ((with_reducible refine gate_dst (N := 36) rfl ?_); (try (refine gate_guard (by rfl) ?_; dsimp only)); refine lp_ BK201 40 35 25 [.string a0_25, .int .i64 a0_26] ?_) | ((with_reducible refine gate_dst (N := 45) rfl ?_); (try (refine gate_guard (by rfl) ?_; dsimp only)); refine lo_ BK201 4 44 13 _ ?_) | ((with_reducible refine gate_dst (N := 1) rfl ?_); refine bx_ (cs := #[.int .i64 a0_0, .int .i64 a0_1, .int .i64 a0_2, .int .i64 a0_3, .int .i64 a0_4, .bool a0_5, .int .i64 a0_6, .int .i64 a0_7, .int .i64 a0_8, .int .i64 a0_9, .bool a0_10, .string a0_11, .int .i64 a0_12, .bool a0_13, .int .i64 a0_14, .int .i64 a0_15, .int .i64 a0_16, .int .i64 a0_17, .int .i64 a0_18, .bool a0_19, .int .i64 a0_20, .int .i64 a0_21, .int .i64 a0_22, .int .i64 a0_23, .bool a0_24, .string a0_25, .int .i64 a0_26]) (t := 44) ?_; intro gb201 hg w20 hbox hb; have BK201 := am_ (hbox); have GW201 := gz_ hg HB; have GE201 := gz_ hg HB; replace HB := am_ (bt_ HB hb); clear hb hbox hg) | ((with_reducible refine gate_callee (f := 26) rfl ?_); refine goesL_ (some 8) rfl rfl Tryz.func26 (by kernel_rfl) rfl #[.agg #[.int .i64 a0_0, .int .i64 a0_1, .int .i64 a0_2, .int .i64 a0_3, .int .i64 a0_4, .bool a0_5, .int .i64 a0_6, .int .i64 a0_7, .int .i64 a0_8, .int .i64 a0_9, .bool a0_10, .string a0_11, .int .i64 a0_12, .bool a0_13, .int .i64 a0_14, .int .i64 a0_15, .int .i64 a0_16, .int .i64 a0_17, .int .i64 a0_18, .bool a0_19, .int .i64 a0_20, .int .i64 a0_21, .int .i64 a0_22, .int .i64 a0_23, .bool a0_24, .string a0_25, .int .i64 a0_26]] rfl args_ ?_; (with_reducible refine (spec_siGood.calls (w := _) (h := A2.out)).mono ?_); rintro e w22 ⟨rfl, hb⟩; refine ⟨_, rfl, ?_⟩; replace BK201 := am_ (lb_ BK201 hb); replace HB := am_ (below_step (bb1_ HB GE201) hb); clear hb))
  go_ret2
  exact ⟨ew_, bb1_ HB GE201⟩

/-! ### impl_Hand_same: function 54 -/
def impl_Hand_same.f (a0_0 a0_1 : Int) (a0_2 a0_3 a0_4 : Int) (a0_5 : Bool) (a0_6 a0_7 : Int) (a0_8 a0_9 : Int) (a0_10 : Bool) (a0_11 : ByteArray) (a0_12 a1_0 : Int) (a1_1 a1_2 : Int) (a1_3 a1_4 : Int) (a1_5 : Bool) (a1_6 a1_7 : Int) (a1_8 a1_9 : Int) (a1_10 : Bool) (a1_11 : ByteArray) (a1_12 : Int) : Option (List Bool) := some (([(a0_0 == a1_0 && (a0_1 == a1_1 && (a0_2 == a1_2 && (a0_3 == a1_3 && (a0_4 == a1_4 && (a0_5 == a1_5)))))), (a0_6 == a1_6 && (a0_7 == a1_7)), (a0_8 == a1_8 && (a0_9 == a1_9 && (a0_10 == a1_10))), (a0_11.toList == a1_11.toList && (a0_12 == a1_12))] : List Bool))
def impl_Hand_same.T1 : Bool × List (List Nat × List Nat) := (true, [([], []), ([0], [0]), ([], []), ([2], [2]), ([1, 3], [1, 3]), ([], []), ([5], [5]), ([], []), ([7], [7]), ([6, 8], [6, 8]), ([], []), ([10], [10]), ([], []), ([12], [12]), ([11, 13], [11, 13]), ([], []), ([15], [15]), ([], []), ([17], [17]), ([16, 18], [16, 18]), ([4, 9, 14, 19], [4, 9, 14, 19]), ([20, 0, 1, 2, 3, 4, 5, 6, 7, 8, 9, 10, 11, 12, 13, 14, 15, 16, 17, 18, 19, 20], [20])])
def impl_Hand_same.B1 : List Nat := [0, 1, 0, 4, 15, 0, 32, 0, 128, 480, 0, 1024, 0, 4096, 15360, 0, 32768, 0, 131072, 491520, 1048575, 2097151]
theorem impl_Hand_same.tab1 : rtab .any (opsOf Tryz.f54 1) = impl_Hand_same.T1 := by kernel_rfl
theorem impl_Hand_same.bits1 : waitsOk impl_Hand_same.T1.2 impl_Hand_same.B1 = true := by kernel_rfl
abbrev impl_Hand_same.S0 (z0_ z1_ : Nat) (z2_ z3_ : Int) (z4_ z5_ : Int) (z6_ z7_ : Int) (z8_ z9_ : Int) (z10_ z11_ : Int) (z12_ z13_ : Int) (z14_ z15_ : Int) (z16_ z17_ : Int) (z18_ z19_ : Int) (z20_ z21_ : Int) (z22_ z23_ : Bool) (z24_ z25_ : Bool) (z26_ z27_ : ByteArray) : World → Prop := fun w' => w'.cell? ⟨z0_, 0, none⟩ = some (.int .i64 z2_) ∧ w'.cell? ⟨z0_, 1, none⟩ = some (.int .i64 z3_) ∧ w'.cell? ⟨z0_, 2, none⟩ = some (.int .i64 z4_) ∧ w'.cell? ⟨z0_, 3, none⟩ = some (.int .i64 z5_) ∧ w'.cell? ⟨z0_, 4, none⟩ = some (.int .i64 z6_) ∧ w'.cell? ⟨z0_, 5, none⟩ = some (.bool z22_) ∧ w'.cell? ⟨z0_, 6, none⟩ = some (.int .i64 z7_) ∧ w'.cell? ⟨z0_, 7, none⟩ = some (.int .i64 z8_) ∧ w'.cell? ⟨z0_, 8, none⟩ = some (.int .i64 z9_) ∧ w'.cell? ⟨z0_, 9, none⟩ = some (.int .i64 z10_) ∧ w'.cell? ⟨z0_, 10, none⟩ = some (.bool z23_) ∧ w'.cell? ⟨z0_, 11, none⟩ = some (.string z26_) ∧ w'.cell? ⟨z0_, 12, none⟩ = some (.int .i64 z11_) ∧ w'.cell? ⟨z1_, 0, none⟩ = some (.int .i64 z12_) ∧ w'.cell? ⟨z1_, 1, none⟩ = some (.int .i64 z13_) ∧ w'.cell? ⟨z1_, 2, none⟩ = some (.int .i64 z14_) ∧ w'.cell? ⟨z1_, 3, none⟩ = some (.int .i64 z15_) ∧ w'.cell? ⟨z1_, 4, none⟩ = some (.int .i64 z16_) ∧ w'.cell? ⟨z1_, 5, none⟩ = some (.bool z24_) ∧ w'.cell? ⟨z1_, 6, none⟩ = some (.int .i64 z17_) ∧ w'.cell? ⟨z1_, 7, none⟩ = some (.int .i64 z18_) ∧ w'.cell? ⟨z1_, 8, none⟩ = some (.int .i64 z19_) ∧ w'.cell? ⟨z1_, 9, none⟩ = some (.int .i64 z20_) ∧ w'.cell? ⟨z1_, 10, none⟩ = some (.bool z25_) ∧ w'.cell? ⟨z1_, 11, none⟩ = some (.string z27_) ∧ w'.cell? ⟨z1_, 12, none⟩ = some (.int .i64 z21_)
set_option maxHeartbeats 8000000 in
set_option maxRecDepth 100000 in
theorem impl_Hand_same.calls (a0_0 a0_1 : Int) (a0_2 a0_3 a0_4 : Int) (a0_5 : Bool) (a0_6 a0_7 : Int) (a0_8 a0_9 : Int) (a0_10 : Bool) (a0_11 : ByteArray) (a0_12 a1_0 : Int) (a1_1 a1_2 : Int) (a1_3 a1_4 : Int) (a1_5 : Bool) (a1_6 a1_7 : Int) (a1_8 a1_9 : Int) (a1_10 : Bool) (a1_11 : ByteArray) (a1_12 : Int) (r : List Bool) (w : World) (h : impl_Hand_same.f a0_0 a0_1 a0_2 a0_3 a0_4 a0_5 a0_6 a0_7 a0_8 a0_9 a0_10 a0_11 a0_12 a1_0 a1_1 a1_2 a1_3 a1_4 a1_5 a1_6 a1_7 a1_8 a1_9 a1_10 a1_11 a1_12 = some r) :
  Calls Tryz.prog 54 #[.agg #[.int .i64 a0_0, .int .i64 a0_1, .int .i64 a0_2, .int .i64 a0_3, .int .i64 a0_4, .bool a0_5, .int .i64 a0_6, .int .i64 a0_7, .int .i64 a0_8, .int .i64 a0_9, .bool a0_10, .string a0_11, .int .i64 a0_12], .agg #[.int .i64 a1_0, .int .i64 a1_1, .int .i64 a1_2, .int .i64 a1_3, .int .i64 a1_4, .bool a1_5, .int .i64 a1_6, .int .i64 a1_7, .int .i64 a1_8, .int .i64 a1_9, .bool a1_10, .string a1_11, .int .i64 a1_12]] w fun e w' => ∃ v0_ : Value, e = .returned (v0_) ∧ Kd.R Kd.bool 4 w' w.heap.size (fun _ => True) v0_ r ∧ Below w.heap.size w w' := by
 have hu42 := Tryz.underlying42
 have hu37 := Tryz.underlying37
 have hu38 := Tryz.underlying38
 have hu39 := Tryz.underlying39
 have hu40 := Tryz.underlying40
 have HB := am_ (Below.refl w.heap.size w)
 have H : (some (([(a0_0 == a1_0 && (a0_1 == a1_1 && (a0_2 == a1_2 && (a0_3 == a1_3 && (a0_4 == a1_4 && (a0_5 == a1_5)))))), (a0_6 == a1_6 && (a0_7 == a1_7)), (a0_8 == a1_8 && (a0_9 == a1_9 && (a0_10 == a1_10))), (a0_11.toList == a1_11.toList && (a0_12 == a1_12))] : List Bool))) = some r := h
 clear h
 obtain ⟨y337, hy337⟩ : ∃ y_ : List Bool, y_ = (([(a0_0 == a1_0 && (a0_1 == a1_1 && (a0_2 == a1_2 && (a0_3 == a1_3 && (a0_4 == a1_4 && (a0_5 == a1_5)))))), (a0_6 == a1_6 && (a0_7 == a1_7)), (a0_8 == a1_8 && (a0_9 == a1_9 && (a0_10 == a1_10))), (a0_11.toList == a1_11.toList && (a0_12 == a1_12))] : List Bool)) := ⟨_, rfl⟩
 replace H : (some y337) = some r := by first | (rw [hy337]; with_reducible exact H) | (have H2_ := (Option.bind_some _ _).symm.trans H; rw [hy337]; with_reducible exact H2_) | (have H2_ := (Option.bind_some _ _).symm.trans H; with_reducible exact H2_) | with_reducible exact H | (rw [hy337]; exact H) | exact H
 have Ny337 := Aside0.mk hy337
 clear hy337
 obtain rfl := Option.some.inj H
 go_enter Tryz.func54, Tryz.ntmps54
 try go_wp2_with (first | ((with_reducible refine gate_dst (N := 2) rfl ?_); refine bx_ (cs := #[.int .i64 a0_0, .int .i64 a0_1, .int .i64 a0_2, .int .i64 a0_3, .int .i64 a0_4, .bool a0_5, .int .i64 a0_6, .int .i64 a0_7, .int .i64 a0_8, .int .i64 a0_9, .bool a0_10, .string a0_11, .int .i64 a0_12]) (t := 42) ?_; intro gb335 hg w3 hbox hb; have BK335 := am_ (hbox); have GW335 := gz_ hg HB; have GE335 := gz_ hg HB; replace HB := am_ (bt_ HB hb); clear hb hbox hg) | ((with_reducible refine gate_dst (N := 3) rfl ?_); refine bx_ (cs := #[.int .i64 a1_0, .int .i64 a1_1, .int .i64 a1_2, .int .i64 a1_3, .int .i64 a1_4, .bool a1_5, .int .i64 a1_6, .int .i64 a1_7, .int .i64 a1_8, .int .i64 a1_9, .bool a1_10, .string a1_11, .int .i64 a1_12]) (t := 42) ?_; intro gb336 hg w4 hbox hb; have BK336 := am_ (hbox); have GW336 := gy_ hg (bb1_ HB GE335); have GE336 := gy_ hg (bb1_ HB GE335); replace HB := am_ (below_step (bb1_ HB GE335) hb); have NB335_336 := nl_ hg BK335; have NB336_335 := ng_ hg BK335; replace BK335 := am_ (lb_ BK335 hb); clear hb hbox hg))
 replace BK335 := am_ (blk_drew BK335.out)
 replace BK336 := am_ (blk_drew BK336.out)
 replace HB := am_ (below_drew1 HB.out)
 refine start_ (n := 22) (S := impl_Hand_same.S0 gb335 gb336 a0_0 a0_1 a0_2 a0_3 a0_4 a0_6 a0_7 a0_8 a0_9 a0_12 a1_0 a1_1 a1_2 a1_3 a1_4 a1_6 a1_7 a1_8 a1_9 a1_12 a0_5 a0_10 a1_5 a1_10 a0_11 a1_11) (ds := []) #[false, false, false, false, false, false, false, false, false, false, false, false, false, false, false, false, false, false, false, false, false, false] (by kernel_rfl) rfl rfl (by repeat' (first | apply And.intro | exact (blk_cell BK335.out _).trans rfl | exact (blk_cell BK336.out _).trans rfl)) (fun hHeld => ?_); refine with_tabW impl_Hand_same.tab1 impl_Hand_same.bits1 (fun HT_ HW_ => ?_)
 generalize w4.drew = w5 at BK335 BK336 HB hHeld ⊢
 refine pu2_ (i := 0) (N := some 5) #[true, false, false, false, false, false, false, false, false, false, false, false, false, false, false, false, false, false, false, false, false, false] rfl rfl ?_
 refine pu2_ (i := 2) (N := some 7) #[true, false, true, false, false, false, false, false, false, false, false, false, false, false, false, false, false, false, false, false, false, false] rfl rfl ?_
 refine pu2_ (i := 5) (N := some 10) #[true, false, true, false, false, true, false, false, false, false, false, false, false, false, false, false, false, false, false, false, false, false] rfl rfl ?_
 refine pu2_ (i := 7) (N := some 12) #[true, false, true, false, false, true, false, true, false, false, false, false, false, false, false, false, false, false, false, false, false, false] rfl rfl ?_
 refine pu2_ (i := 10) (N := some 15) #[true, false, true, false, false, true, false, true, false, false, true, false, false, false, false, false, false, false, false, false, false, false] rfl rfl ?_
 refine pu2_ (i := 12) (N := some 17) #[true, false, true, false, false, true, false, true, false, false, true, false, true, false, false, false, false, false, false, false, false, false] rfl rfl ?_
 refine pu2_ (i := 15) (N := some 20) #[true, false, true, false, false, true, false, true, false, false, true, false, true, false, false, true, false, false, false, false, false, false] rfl rfl ?_
 refine pu2_ (i := 17) (N := some 22) #[true, false, true, false, false, true, false, true, false, false, true, false, true, false, false, true, false, true, false, false, false, false] rfl rfl ?_
 refine tk2_ (i := 1) (N := some 6) #[true, true, true, false, false, true, false, true, false, false, true, false, true, false, false, true, false, true, false, false, false, false] rfl rfl hHeld ?_
 refine tk2_ (i := 3) (N := some 8) #[true, true, true, true, false, true, false, true, false, false, true, false, true, false, false, true, false, true, false, false, false, false] rfl rfl hHeld ?_
 refine pu2_ (i := 4) (N := some 9) #[true, true, true, true, true, true, false, true, false, false, true, false, true, false, false, true, false, true, false, false, false, false] rfl rfl ?_
 refine tk2_ (i := 6) (N := some 11) #[true, true, true, true, true, true, true, true, false, false, true, false, true, false, false, true, false, true, false, false, false, false] rfl rfl hHeld ?_
 refine tk2_ (i := 8) (N := some 13) #[true, true, true, true, true, true, true, true, true, false, true, false, true, false, false, true, false, true, false, false, false, false] rfl rfl hHeld ?_
 refine pu2_ (i := 9) (N := some 14) #[true, true, true, true, true, true, true, true, true, true, true, false, true, false, false, true, false, true, false, false, false, false] rfl rfl ?_
 refine tk2_ (i := 11) (N := some 16) #[true, true, true, true, true, true, true, true, true, true, true, true, true, false, false, true, false, true, false, false, false, false] rfl rfl hHeld ?_
 refine tk2_ (i := 13) (N := some 18) #[true, true, true, true, true, true, true, true, true, true, true, true, true, true, false, true, false, true, false, false, false, false] rfl rfl hHeld ?_
 refine pu2_ (i := 14) (N := some 19) #[true, true, true, true, true, true, true, true, true, true, true, true, true, true, true, true, false, true, false, false, false, false] rfl rfl ?_
 refine tk2_ (i := 16) (N := some 21) #[true, true, true, true, true, true, true, true, true, true, true, true, true, true, true, true, true, true, false, false, false, false] rfl rfl hHeld ?_
 refine tk2_ (i := 18) (N := some 23) #[true, true, true, true, true, true, true, true, true, true, true, true, true, true, true, true, true, true, true, false, false, false] rfl rfl hHeld ?_
 refine pu2_ (i := 19) (N := some 24) #[true, true, true, true, true, true, true, true, true, true, true, true, true, true, true, true, true, true, true, true, false, false] rfl rfl ?_
 refine one_ (i := 20) (N := some 25) #[true, true, true, true, true, true, true, true, true, true, true, true, true, true, true, true, true, true, true, true, true, false] rfl rfl (one_of HT_.out (by kernel_rfl)) (by decide) (fun K hK => ?_)
 refine Kd.R_lit_step Kd.bool _ 4 ?hg (N := 25) ?hd (xs := ([(a0_0 == a1_0 && (a0_1 == a1_1 && (a0_2 == a1_2 && (a0_3 == a1_3 && (a0_4 == a1_4 && (a0_5 == a1_5)))))), (a0_6 == a1_6 && (a0_7 == a1_7)), (a0_8 == a1_8 && (a0_9 == a1_9 && (a0_10 == a1_10))), (a0_11.toList == a1_11.toList && (a0_12 == a1_12))] : List Bool)) (inner := [.bool (a0_0 == a1_0 && (a0_1 == a1_1 && (a0_2 == a1_2 && (a0_3 == a1_3 && (a0_4 == a1_4 && (a0_5 == a1_5)))))), .bool (a0_6 == a1_6 && (a0_7 == a1_7)), .bool (a0_8 == a1_8 && (a0_9 == a1_9 && (a0_10 == a1_10))), .bool (a0_11.toList == a1_11.toList && (a0_12 == a1_12))]) (ok := fun _ => True) (okp := fun _ => True) ?hr ?hp (fun _ hk => hk) trivial (Below.refl _ _) (Nat.le_refl _) (by simp) ?_; (case hd => rfl); (case hg => rfl); (case hr => first | (go_simp; done) | (go_simp; rfl)); (case hp => exact (Reps.one (show Kd.M Kd.bool _ _ _ (a0_0 == a1_0 && (a0_1 == a1_1 && (a0_2 == a1_2 && (a0_3 == a1_3 && (a0_4 == a1_4 && (a0_5 == a1_5)))))) [.bool (a0_0 == a1_0 && (a0_1 == a1_1 && (a0_2 == a1_2 && (a0_3 == a1_3 && (a0_4 == a1_4 && (a0_5 == a1_5))))))] from rfl) (Reps.one (show Kd.M Kd.bool _ _ _ (a0_6 == a1_6 && (a0_7 == a1_7)) [.bool (a0_6 == a1_6 && (a0_7 == a1_7))] from rfl) (Reps.one (show Kd.M Kd.bool _ _ _ (a0_8 == a1_8 && (a0_9 == a1_9 && (a0_10 == a1_10))) [.bool (a0_8 == a1_8 && (a0_9 == a1_9 && (a0_10 == a1_10)))] from rfl) (Reps.one (show Kd.M Kd.bool _ _ _ (a0_11.toList == a1_11.toList && (a0_12 == a1_12)) [.bool (a0_11.toList == a1_11.toList && (a0_12 == a1_12))] from rfl) (Reps.none _ _))))))
 intro v338 w6 ho7 hb hg_ hnew_
 clear hg_ hnew_
 (first | rw [← Ny337.out] at ho7 | (simp only [Int.reduceToNat] at ho7; rw [← Ny337.out] at ho7))
 have HO339 := am_ (Kd.R_lower ho7 (below_size (bb2_ HB GE335 GE336)))
 replace BK335 := am_ (lb_ BK335 hb)
 replace BK336 := am_ (lb_ BK336 hb)
 replace HB := am_ (below_step (bb2_ HB GE335 GE336) hb)
 clear hb ho7
 refine hK.out _ _ (by repeat' (first | apply And.intro | exact (blk_cell BK335.out _).trans rfl | exact (blk_cell BK336.out _).trans rfl)) (fun hHeld => ?_)
 clear hK K
 refine nm2_ ?_
 refine pu2_ (i := 21) (N := some 4) #[true, true, true, true, true, true, true, true, true, true, true, true, true, true, true, true, true, true, true, true, true, true] rfl rfl ?_
 refine done_ (done_of HT_.out (by kernel_rfl)) ?_
 try go_wp2
 go_ret
 exact ⟨_, ew_, by (with_reducible repeat (first | apply rA_ | apply rN_ | apply rD_)); exact HO339.out, bb2_ HB GE335 GE336⟩

/-! ### impl_Hand_common: function 29 -/
/-- The places of what holds. -/
def thBIdx : Nat → List Bool → List Int
 | _, [] => []
 | i, x :: xs => if x = true then (i : Int) :: thBIdx (i + 1) xs else thBIdx (i + 1) xs
/-- How many hold. -/
def thBCnt (l : List Bool) : Int := ((l.filter fun x => x).length : Int)
theorem thBIdx_len : ∀ (l : List Bool) (i : Nat), (thBIdx i l).length = (l.filter fun x => x).length
 | [], _ => rfl
 | x :: xs, i => by
  unfold thBIdx
  rw [List.filter_cons]
  by_cases h : x = true
  ·rw [if_pos h, if_pos h, List.length_cons, List.length_cons, thBIdx_len xs (i + 1)]
  ·rw [if_neg h, if_neg h, thBIdx_len xs (i + 1)]
def thBFrom (l : List Bool) (i : Nat) (o R : List Int) : Prop := i ≤ l.length ∧ o ++ thBIdx i (l.drop i) = R ∧ o.length ≤ i
theorem thB_step {l : List Bool} {i : Nat} {o R : List Int} (h : thBFrom l i o R) (hlt : i < l.length) : ((fun x => x) l[i] = true → thBFrom l (i + 1) (o ++ [(i : Int)]) R) ∧ (¬ (fun x => x) l[i] = true → thBFrom l (i + 1) o R) := by
 obtain ⟨_, h, hl⟩ := h
 rw [List.drop_eq_getElem_cons hlt] at h
 unfold thBIdx at h
 refine ⟨fun e => ?_, fun e => ?_⟩
 ·rw [if_pos e] at h
  exact ⟨by omega, by rw [List.append_assoc]; exact h, by simp; omega⟩
 ·rw [if_neg e] at h
  exact ⟨by omega, h, by omega⟩
theorem thB_end {l : List Bool} {i : Nat} {o R : List Int} (h : thBFrom l i o R) (hge : ¬ i < l.length) : o = R := by
 obtain ⟨hi, h, _⟩ := h
 rw [List.drop_eq_nil_of_le (by omega)] at h
 simpa [thBIdx] using h
theorem thB_info : (Tryz.prog.info? 3).map (fun i => (i.zero, i.size, i.bytes)) = some (some (.int .i64 0), 1, 8) := by kernel_rfl
set_option maxHeartbeats 4000000 in
set_option maxRecDepth 100000 in
theorem thB_clo (x : Bool) (w : World) : Calls Tryz.prog 55 #[.bool x] w fun e w' => e = .returned (.bool x) ∧ Drawn0 w w' := by
 go_enter Tryz.func55, Tryz.ntmps55
 go_wp2
 go_ret
 exact ⟨by first | rfl | (simp; done), by repeat (first | exact Drawn0.refl _ | apply Drawn0.step)⟩
set_option maxHeartbeats 8000000 in
set_option maxRecDepth 100000 in
theorem thB_calls (A : Option Addr) (c : Nat) (l : List Bool) (w : World) (hr : Kd.C Kd.bool w A l.length l) (hn : l.length ≤ 1000) :
  Calls Tryz.prog 53 #[.slice A l.length c, .func (.func 55) #[] #[]] w fun e w' => ∃ v, e = .returned v ∧ Kd.R (Kd.int .i64) 3 w' w.heap.size (fun _ => True) v (thBIdx 0 l) ∧ Below w.heap.size w w' := by
 obtain ⟨R, hR⟩ : ∃ R, thBIdx 0 l = R := ⟨_, rfl⟩
 rw [hR]
 have HR := Aside0.mk hr
 have HN : Aside0 (thBFrom l 0 [] R) := ⟨⟨Nat.zero_le _, by rw [List.drop_zero]; exact hR, Nat.le_refl _⟩⟩
 have HB := am_ (Below.refl w.heap.size w)
 have HL := Aside0.mk hn
 clear hr hn hR
 go_enter Tryz.func53, Tryz.ntmps53
 go_wp2
 go_loopg [5, 10] (l.length) (fun kq v5 v10 w' => ∃ (i : Nat) (o : List Int), v10 = .int .i64 (i : Int) ∧ Aside0 (kq = l.length - i) ∧ Aside0 (thBFrom l i o R) ∧ Aside0 (Kd.R (Kd.int .i64) 3 w' w.heap.size (fun _ => True) v5 o) ∧ Aside0 (Below w.heap.size w w'))
 case atStart => exact ⟨0, [], rfl, ⟨rfl⟩, HN, ⟨Kd.R_nil _ _ _ _ _⟩, HB⟩
 case round =>
  clear HN HB
  obtain ⟨i, o, rfl, HK, HN, HO, HB⟩ := hrel
  have hll := HL.out
  by_cases hlt : i < l.length
  ·have hst := thB_step HN.out hlt
   obtain ⟨ad, eA, hx⟩ := Kd.at_bool (Kd.C_below HR.out HB.out) (i : Int) (by omega) (by omega)
   cases eA
   have e : rdOf false l (i : Int) = l[i] := by
    unfold rdOf
    rw [List.getD_eq_getElem?_getD]
    simp [hlt]
   rw [e] at hx
   have hx : wr.cell? (ad.add i) = some (.bool l[i]) := hx
   generalize l[i] = x at hx hst
   dsimp only at hst
   have HW := am_ (fun W => thB_clo x W)
   have hi0 : (0 : Int) ≤ (i : Int) := by omega
   have hi1 : (i : Int) < (l.length : Int) := by omega
   have LM : Aside0 (o.length ≤ 1000) := ⟨by have := HN.out.2.2; omega⟩
   by_cases hp : x = true
   ·have h3 := am_ (hst.1 hp)
    clear hst e HN
    subst hp
    go_wp2_with (first | (go_at_call 55; (with_reducible refine (HW.out _).mono ?_); rintro e w' ⟨rfl, ⟨nd, rfl⟩⟩) | ((with_reducible refine gate_builtin (b := .append) (xs := #[.tmp 18, .tmp 20]) rfl ?_); at_builtin; refine Kd.R_append (Kd.int .i64) (w0 := w) w.heap.size rfl (.tmp 18) (.tmp 20) 81 3 (.int .i64 0) 8 rfl Tryz.underlying81 thB_info rfl (by decide) (by omega) u5 o (i : Int) [.int .i64 (i : Int)] (fun _ => True) (fun _ => False) rfl rfl ?aP (fun _ hk => hk.elim) ?aF ?aO ?aB ?aS ?aL ?_; (case aP => exact rfl); (case aB => repeat (first | exact HB.out | apply pw_below_drewN | apply below_drew1 | apply below_alloc)); (case aF => exact (fun _ _ => trivial)); (case aO => repeat (first | exact HO.out | apply rA_ | apply rN_ | apply rD_)); (case aS => exact (below_size (by repeat (first | exact HB.out | apply pw_below_drewN | apply below_drew1 | apply below_alloc)))); (case aL => have := LM.out; omega); intro v150 w16 ho hb hg hat; have HO2 := Aside0.mk ho; have HB2 := Aside0.mk hb; clear ho hb hg hat))
    go_roundg (l.length - (i + 1))
    case measure => have := HK.out; omega
    case rel => exact ⟨i + 1, o ++ [(i : Int)], by first | rfl | (simp; done), ⟨rfl⟩, h3, ⟨by repeat (first | exact HO2.out | apply rA_ | apply rN_ | apply rD_)⟩, ⟨by repeat (first | exact HB2.out | apply pw_below_drewN | apply below_drew1 | apply below_alloc)⟩⟩
   ·have h3 := am_ (hst.2 hp)
    have hpf := eq_false_of_ne_true hp
    clear hst hp e HN LM
    subst hpf
    go_wp2_with (go_at_call 55; (with_reducible refine (HW.out _).mono ?_); rintro e w' ⟨rfl, ⟨nd, rfl⟩⟩)
    go_roundg (l.length - (i + 1))
    case measure => have := HK.out; omega
    case rel => exact ⟨i + 1, o, by first | rfl | (simp; done), ⟨rfl⟩, h3, ⟨by repeat (first | exact HO.out | apply Kd.R_drewN | apply Kd.R_drew)⟩, ⟨by repeat (first | exact HB.out | apply pw_below_drewN | apply below_drew1)⟩⟩
  ·have h3 := thB_end HN.out hlt
   subst h3
   have hi0 : (0 : Int) ≤ (i : Int) := by omega
   have hi1 : ¬ ((i : Int) < (l.length : Int)) := by omega
   clear hlt HN HK
   go_wp2
   go_ret
   exact ⟨_, rfl, by repeat (first | exact HO.out | apply rA_ | apply rN_ | apply rD_), by repeat (first | exact HB.out | apply pw_below_drewN | apply below_drew1 | apply below_alloc)⟩

def impl_Hand_common.f (a0_0 a0_1 : Int) (a0_2 a0_3 a0_4 : Int) (a0_5 : Bool) (a0_6 a0_7 : Int) (a0_8 a0_9 : Int) (a0_10 : Bool) (a0_11 : ByteArray) (a0_12 a1_0 : Int) (a1_1 a1_2 : Int) (a1_3 a1_4 : Int) (a1_5 : Bool) (a1_6 a1_7 : Int) (a1_8 a1_9 : Int) (a1_10 : Bool) (a1_11 : ByteArray) (a1_12 : Int) : Option Int := (impl_Hand_same.f a0_0 a0_1 a0_2 a0_3 a0_4 a0_5 a0_6 a0_7 a0_8 a0_9 a0_10 a0_11 a0_12 a1_0 a1_1 a1_2 a1_3 a1_4 a1_5 a1_6 a1_7 a1_8 a1_9 a1_10 a1_11 a1_12).bind fun l => if l.length ≤ 1000 then some (thBCnt l) else none
set_option maxHeartbeats 4000000 in
set_option maxRecDepth 100000 in
theorem impl_Hand_common.calls (a0_0 a0_1 : Int) (a0_2 a0_3 a0_4 : Int) (a0_5 : Bool) (a0_6 a0_7 : Int) (a0_8 a0_9 : Int) (a0_10 : Bool) (a0_11 : ByteArray) (a0_12 a1_0 : Int) (a1_1 a1_2 : Int) (a1_3 a1_4 : Int) (a1_5 : Bool) (a1_6 a1_7 : Int) (a1_8 a1_9 : Int) (a1_10 : Bool) (a1_11 : ByteArray) (a1_12 r : Int) (w : World) (h : impl_Hand_common.f a0_0 a0_1 a0_2 a0_3 a0_4 a0_5 a0_6 a0_7 a0_8 a0_9 a0_10 a0_11 a0_12 a1_0 a1_1 a1_2 a1_3 a1_4 a1_5 a1_6 a1_7 a1_8 a1_9 a1_10 a1_11 a1_12 = some r) :
  Calls Tryz.prog 29 #[.agg #[.int .i64 a0_0, .int .i64 a0_1, .int .i64 a0_2, .int .i64 a0_3, .int .i64 a0_4, .bool a0_5, .int .i64 a0_6, .int .i64 a0_7, .int .i64 a0_8, .int .i64 a0_9, .bool a0_10, .string a0_11, .int .i64 a0_12], .agg #[.int .i64 a1_0, .int .i64 a1_1, .int .i64 a1_2, .int .i64 a1_3, .int .i64 a1_4, .bool a1_5, .int .i64 a1_6, .int .i64 a1_7, .int .i64 a1_8, .int .i64 a1_9, .bool a1_10, .string a1_11, .int .i64 a1_12]] w fun e w' => e = .returned (.int .i64 r) ∧ Below w.heap.size w w' := by
 obtain ⟨l, hl, h⟩ := Option.bind_eq_some_iff.mp h
 by_cases hn : l.length ≤ 1000
 ·rw [if_pos hn] at h
  obtain rfl := Option.some.inj h
  have HBE := Aside0.mk hl
  have HN := Aside0.mk hn
  have HB := am_ (Below.refl w.heap.size w)
  have hlen := am_ (thBIdx_len l 0)
  unfold thBCnt
  clear h hl hn
  go_enter Tryz.func29, Tryz.ntmps29
  go_wp2_with (first | ((with_reducible refine gate_dst (N := 2) rfl ?_); refine bx_ (cs := #[.int .i64 a0_0, .int .i64 a0_1, .int .i64 a0_2, .int .i64 a0_3, .int .i64 a0_4, .bool a0_5, .int .i64 a0_6, .int .i64 a0_7, .int .i64 a0_8, .int .i64 a0_9, .bool a0_10, .string a0_11, .int .i64 a0_12]) (t := 42) ?_; intro g2 hg w2 hbox hb; have BK2 := am_ (show w2.heap[g2]? = some (.cells ([.int .i64 a0_0, .int .i64 a0_1, .int .i64 a0_2, .int .i64 a0_3, .int .i64 a0_4, .bool a0_5, .int .i64 a0_6, .int .i64 a0_7, .int .i64 a0_8, .int .i64 a0_9, .bool a0_10, .string a0_11, .int .i64 a0_12] : List Value).toArray 42 (0, 0)) from hbox); have HBn := am_ (below_step HB.out hb); clear HB; have HB := HBn; clear HBn hbox hb hg) | ((with_reducible refine gate_dst (N := 3) rfl ?_); refine bx_ (cs := #[.int .i64 a1_0, .int .i64 a1_1, .int .i64 a1_2, .int .i64 a1_3, .int .i64 a1_4, .bool a1_5, .int .i64 a1_6, .int .i64 a1_7, .int .i64 a1_8, .int .i64 a1_9, .bool a1_10, .string a1_11, .int .i64 a1_12]) (t := 42) ?_; intro g3 hg w3 hbox hb; have BKn2 := am_ (blk_below BK2.out hb); clear BK2; have BK2 := BKn2; clear BKn2; have BK3 := am_ (show w3.heap[g3]? = some (.cells ([.int .i64 a1_0, .int .i64 a1_1, .int .i64 a1_2, .int .i64 a1_3, .int .i64 a1_4, .bool a1_5, .int .i64 a1_6, .int .i64 a1_7, .int .i64 a1_8, .int .i64 a1_9, .bool a1_10, .string a1_11, .int .i64 a1_12] : List Value).toArray 42 (0, 0)) from hbox); have HBn := am_ (below_step HB.out hb); clear HB; have HB := HBn; clear HBn hbox hb hg) | ((with_reducible refine gate_dst (N := 5) rfl ?_); refine load_part (p := 2) (t := 42) (off := 0) ?hg ?ho BK2.out [.int .i64 a0_0, .int .i64 a0_1, .int .i64 a0_2, .int .i64 a0_3, .int .i64 a0_4, .bool a0_5, .int .i64 a0_6, .int .i64 a0_7, .int .i64 a0_8, .int .i64 a0_9, .bool a0_10, .string a0_11, .int .i64 a0_12] ?ha ?hs ?hi ?hv ?_; (case hg => rfl); (case ho => rfl); (case ha => rfl); (case hs => kernel_rfl); (case hi => exact fun _ => by kernel_rfl); (case hv => rfl)) | ((with_reducible refine gate_dst (N := 6) rfl ?_); refine load_part (p := 3) (t := 42) (off := 0) ?hg ?ho BK3.out [.int .i64 a1_0, .int .i64 a1_1, .int .i64 a1_2, .int .i64 a1_3, .int .i64 a1_4, .bool a1_5, .int .i64 a1_6, .int .i64 a1_7, .int .i64 a1_8, .int .i64 a1_9, .bool a1_10, .string a1_11, .int .i64 a1_12] ?ha ?hs ?hi ?hv ?_; (case hg => rfl); (case ho => rfl); (case ha => rfl); (case hs => kernel_rfl); (case hi => exact fun _ => by kernel_rfl); (case hv => rfl)) | (go_at_call 54; (with_reducible refine (impl_Hand_same.calls a0_0 a0_1 a0_2 a0_3 a0_4 a0_5 a0_6 a0_7 a0_8 a0_9 a0_10 a0_11 a0_12 a1_0 a1_1 a1_2 a1_3 a1_4 a1_5 a1_6 a1_7 a1_8 a1_9 a1_10 a1_11 a1_12 _ _ HBE.out).mono ?_); rintro e w4 ⟨v, rfl, hr, hb⟩; obtain ⟨A, cp, rfl⟩ := Kd.R_slice hr; have HC := am_ (Kd.R_reads' hr).2.2; have HBn := am_ (below_step HB.out hb); clear HB hb hr; have HB := HBn; clear HBn) | (go_at_call 53; refine (thB_calls A cp l _ HC.out HN.out).mono ?_; rintro e w5 ⟨v, rfl, hr, hb⟩; obtain ⟨A2, cp2, rfl⟩ := Kd.R_slice hr; have HBn := am_ (below_step HB.out hb); clear HB hb hr; have HB := HBn; clear HBn))
  go_ret
  exact ⟨by have e := hlen.out; simp only [e]; rfl, by repeat (first | exact HB.out | apply pw_below_drewN | apply below_drew1 | apply below_alloc)⟩
 ·rw [if_neg hn] at h; cases h

/-! ### impl_SharedParts: function 12 -/
def impl_SharedParts.f (k : Nat) (a0_0 a0_1 : Int) (a0_2 a0_3 a0_4 : Int) (a0_5 : Bool) (a0_6 a0_7 : Int) (a0_8 a0_9 : Int) (a0_10 : Bool) (a0_11 : ByteArray) (a0_12 : Int) (a0_13 : Bool) (a0_14 a0_15 : Int) (a0_16 a0_17 a0_18 : Int) (a0_19 : Bool) (a0_20 a0_21 : Int) (a0_22 a0_23 : Int) (a0_24 : Bool) (a0_25 : ByteArray) (a0_26 : Int) : Option (Int × Bool) := (impl_IsSign.f k a0_0 a0_1 a0_2 a0_3 a0_4 a0_5 a0_6 a0_7 a0_8 a0_9 a0_10 a0_11 a0_12 a0_13 a0_14 a0_15 a0_16 a0_17 a0_18 a0_19 a0_20 a0_21 a0_22 a0_23 a0_24 a0_25 a0_26).bind fun t341 => (if t341 = true then (if a0_13 = true then ((impl_Hand_common.f a0_0 a0_1 a0_2 a0_3 a0_4 a0_5 a0_6 a0_7 a0_8 a0_9 a0_10 a0_11 a0_12 a0_14 a0_15 a0_16 a0_17 a0_18 a0_19 a0_20 a0_21 a0_22 a0_23 a0_24 a0_25 a0_26).bind fun t342 => (some (t342, true))) else (some (0, true))) else (some (0, false)))
theorem impl_SharedParts.mono : ∀ a0 a1 a2 a3 a4 a5 a6 a7 a8 a9 a10 a11 a12 a13 a14 a15 a16 a17 a18 a19 a20 a21 a22 a23 a24 a25 a26 k, LeO (impl_SharedParts.f k a0 a1 a2 a3 a4 a5 a6 a7 a8 a9 a10 a11 a12 a13 a14 a15 a16 a17 a18 a19 a20 a21 a22 a23 a24 a25 a26) (impl_SharedParts.f (k + 1) a0 a1 a2 a3 a4 a5 a6 a7 a8 a9 a10 a11 a12 a13 a14 a15 a16 a17 a18 a19 a20 a21 a22 a23 a24 a25 a26) := by
 intro a0 a1 a2 a3 a4 a5 a6 a7 a8 a9 a10 a11 a12 a13 a14 a15 a16 a17 a18 a19 a20 a21 a22 a23 a24 a25 a26 k
 unfold impl_SharedParts.f
 repeat' first
   | (with_reducible exact impl_IsSign.mono _ _ _ _ _ _ _ _ _ _ _ _ _ _ _ _ _ _ _ _ _ _ _ _ _ _ _ _)
   | (with_reducible exact LeO.refl _)
   | (with_reducible exact LeO.none _)
   | (with_reducible refine LeO.ite ?_ ?_)
   | (with_reducible refine LeO.bind ?_ (fun _ => ?_))
   | exact LeO.none _
   | refine LeO.ite ?_ ?_
   | refine LeO.bind ?_ (fun _ => ?_)
set_option maxHeartbeats 8000000 in
set_option maxRecDepth 100000 in
theorem impl_SharedParts.calls (k : Nat) (a0_0 a0_1 : Int) (a0_2 a0_3 a0_4 : Int) (a0_5 : Bool) (a0_6 a0_7 : Int) (a0_8 a0_9 : Int) (a0_10 : Bool) (a0_11 : ByteArray) (a0_12 : Int) (a0_13 : Bool) (a0_14 a0_15 : Int) (a0_16 a0_17 a0_18 : Int) (a0_19 : Bool) (a0_20 a0_21 : Int) (a0_22 a0_23 : Int) (a0_24 : Bool) (a0_25 : ByteArray) (a0_26 r1 : Int) (r2 : Bool) (w : World) (h : impl_SharedParts.f k a0_0 a0_1 a0_2 a0_3 a0_4 a0_5 a0_6 a0_7 a0_8 a0_9 a0_10 a0_11 a0_12 a0_13 a0_14 a0_15 a0_16 a0_17 a0_18 a0_19 a0_20 a0_21 a0_22 a0_23 a0_24 a0_25 a0_26 = some (r1, r2)) :
  Calls Tryz.prog 12 #[.agg #[.int .i64 a0_0, .int .i64 a0_1, .int .i64 a0_2, .int .i64 a0_3, .int .i64 a0_4, .bool a0_5, .int .i64 a0_6, .int .i64 a0_7, .int .i64 a0_8, .int .i64 a0_9, .bool a0_10, .string a0_11, .int .i64 a0_12, .bool a0_13, .int .i64 a0_14, .int .i64 a0_15, .int .i64 a0_16, .int .i64 a0_17, .int .i64 a0_18, .bool a0_19, .int .i64 a0_20, .int .i64 a0_21, .int .i64 a0_22, .int .i64 a0_23, .bool a0_24, .string a0_25, .int .i64 a0_26]] w fun e w' => e = .returned (.tuple #[.int .i64 r1, .bool r2]) ∧ Below w.heap.size w w' := by
 have hu44 := Tryz.underlying44
 have hu42 := Tryz.underlying42
 have HB := am_ (Below.refl w.heap.size w)
 have H : ((impl_IsSign.f k a0_0 a0_1 a0_2 a0_3 a0_4 a0_5 a0_6 a0_7 a0_8 a0_9 a0_10 a0_11 a0_12 a0_13 a0_14 a0_15 a0_16 a0_17 a0_18 a0_19 a0_20 a0_21 a0_22 a0_23 a0_24 a0_25 a0_26).bind fun t341 => (if t341 = true then (if a0_13 = true then ((impl_Hand_common.f a0_0 a0_1 a0_2 a0_3 a0_4 a0_5 a0_6 a0_7 a0_8 a0_9 a0_10 a0_11 a0_12 a0_14 a0_15 a0_16 a0_17 a0_18 a0_19 a0_20 a0_21 a0_22 a0_23 a0_24 a0_25 a0_26).bind fun t342 => (some (t342, true))) else (some (0, true))) else (some (0, false)))) = some (r1, r2) := h
 clear h
 replace H := Option.bind_eq_some_iff.mp H
 obtain ⟨t341, A20, H⟩ := H
 try dsimp only at H
 have A2 := Aside0.mk A20
 clear A20
 by_cases c3 : t341 = true
 ·subst c3
  have H1 : (if a0_13 = true then ((impl_Hand_common.f a0_0 a0_1 a0_2 a0_3 a0_4 a0_5 a0_6 a0_7 a0_8 a0_9 a0_10 a0_11 a0_12 a0_14 a0_15 a0_16 a0_17 a0_18 a0_19 a0_20 a0_21 a0_22 a0_23 a0_24 a0_25 a0_26).bind fun t342 => (some (t342, true))) else (some (0, true))) = some (r1, r2) := by rw [if_pos rfl] at H; exact H
  clear H
  have H := H1
  clear H1
  by_cases c4 : a0_13 = true
  ·subst c4
   have H1 : ((impl_Hand_common.f a0_0 a0_1 a0_2 a0_3 a0_4 a0_5 a0_6 a0_7 a0_8 a0_9 a0_10 a0_11 a0_12 a0_14 a0_15 a0_16 a0_17 a0_18 a0_19 a0_20 a0_21 a0_22 a0_23 a0_24 a0_25 a0_26).bind fun t342 => (some (t342, true))) = some (r1, r2) := by rw [if_pos rfl] at H; exact H
   clear H
   have H := H1
   clear H1
   replace H := Option.bind_eq_some_iff.mp H
   obtain ⟨t342, A50, H⟩ := H
   try dsimp only at H
   have A5 := Aside0.mk A50
   clear A50
   simp only [Option.some.injEq, Prod.mk.injEq] at H
   obtain ⟨rfl, rfl⟩ := H
   go_enter Tryz.func12, Tryz.ntmps12
   go_wp2_with (first | ((with_reducible refine gate_dst (N := 4) rfl ?_); (try (refine gate_guard (by rfl) ?_; dsimp only)); refine lq_ BK340 44 1 ?_) | ((with_reducible refine gate_dst (N := 8) rfl ?_); (try (refine gate_guard (by rfl) ?_; dsimp only)); refine lo_ BK340 4 7 13 _ ?_) | ((with_reducible refine gate_dst (N := 11) rfl ?_); (try (refine gate_guard (by rfl) ?_; dsimp only)); refine lp_ BK340 42 10 0 [.int .i64 a0_0, .int .i64 a0_1, .int .i64 a0_2, .int .i64 a0_3, .int .i64 a0_4, .bool a0_5, .int .i64 a0_6, .int .i64 a0_7, .int .i64 a0_8, .int .i64 a0_9, .bool a0_10, .string a0_11, .int .i64 a0_12] ?_) | ((with_reducible refine gate_dst (N := 13) rfl ?_); (try (refine gate_guard (by rfl) ?_; dsimp only)); refine lp_ BK340 42 12 14 [.int .i64 a0_14, .int .i64 a0_15, .int .i64 a0_16, .int .i64 a0_17, .int .i64 a0_18, .bool a0_19, .int .i64 a0_20, .int .i64 a0_21, .int .i64 a0_22, .int .i64 a0_23, .bool a0_24, .string a0_25, .int .i64 a0_26] ?_) | ((with_reducible refine gate_dst (N := 1) rfl ?_); refine bx_ (cs := #[.int .i64 a0_0, .int .i64 a0_1, .int .i64 a0_2, .int .i64 a0_3, .int .i64 a0_4, .bool a0_5, .int .i64 a0_6, .int .i64 a0_7, .int .i64 a0_8, .int .i64 a0_9, .bool a0_10, .string a0_11, .int .i64 a0_12, .bool true, .int .i64 a0_14, .int .i64 a0_15, .int .i64 a0_16, .int .i64 a0_17, .int .i64 a0_18, .bool a0_19, .int .i64 a0_20, .int .i64 a0_21, .int .i64 a0_22, .int .i64 a0_23, .bool a0_24, .string a0_25, .int .i64 a0_26]) (t := 44) ?_; intro gb340 hg w6 hbox hb; have BK340 := am_ (hbox); have GW340 := gz_ hg HB; have GE340 := gz_ hg HB; replace HB := am_ (bt_ HB hb); clear hb hbox hg) | ((with_reducible refine gate_callee (f := 28) rfl ?_); refine goesL_ (some 5) rfl rfl Tryz.func28 (by kernel_rfl) rfl #[.agg #[.int .i64 a0_0, .int .i64 a0_1, .int .i64 a0_2, .int .i64 a0_3, .int .i64 a0_4, .bool a0_5, .int .i64 a0_6, .int .i64 a0_7, .int .i64 a0_8, .int .i64 a0_9, .bool a0_10, .string a0_11, .int .i64 a0_12, .bool true, .int .i64 a0_14, .int .i64 a0_15, .int .i64 a0_16, .int .i64 a0_17, .int .i64 a0_18, .bool a0_19, .int .i64 a0_20, .int .i64 a0_21, .int .i64 a0_22, .int .i64 a0_23, .bool a0_24, .string a0_25, .int .i64 a0_26]] rfl args_ ?_; (with_reducible refine (impl_IsSign.calls (w := _) (h := A2.out)).mono ?_); rintro e w8 ⟨rfl, hb⟩; refine ⟨_, rfl, ?_⟩; replace BK340 := am_ (lb_ BK340 hb); replace HB := am_ (below_step (bb1_ HB GE340) hb); clear hb) | ((with_reducible refine gate_callee (f := 29) rfl ?_); refine goesL_ (some 14) rfl rfl Tryz.func29 (by kernel_rfl) rfl #[.agg #[.int .i64 a0_0, .int .i64 a0_1, .int .i64 a0_2, .int .i64 a0_3, .int .i64 a0_4, .bool a0_5, .int .i64 a0_6, .int .i64 a0_7, .int .i64 a0_8, .int .i64 a0_9, .bool a0_10, .string a0_11, .int .i64 a0_12], .agg #[.int .i64 a0_14, .int .i64 a0_15, .int .i64 a0_16, .int .i64 a0_17, .int .i64 a0_18, .bool a0_19, .int .i64 a0_20, .int .i64 a0_21, .int .i64 a0_22, .int .i64 a0_23, .bool a0_24, .string a0_25, .int .i64 a0_26]] rfl args_ ?_; (with_reducible refine (impl_Hand_common.calls (w := _) (h := A5.out)).mono ?_); rintro e w10 ⟨rfl, hb⟩; refine ⟨_, rfl, ?_⟩; replace BK340 := am_ (lb_ BK340 hb); replace HB := am_ (below_step (bb1_ HB GE340) hb); clear hb))
   go_ret2
   exact ⟨ew_, bb1_ HB GE340⟩
  ·replace c4 := Bool.eq_false_iff.mpr c4
   subst c4
   have H1 : (some (0, true)) = some (r1, r2) := by rw [if_neg (show ¬ (false = true) by decide)] at H; exact H
   clear H
   have H := H1
   clear H1
   simp only [Option.some.injEq, Prod.mk.injEq] at H
   obtain ⟨rfl, rfl⟩ := H
   go_enter Tryz.func12, Tryz.ntmps12
   go_wp2_with (first | ((with_reducible refine gate_dst (N := 4) rfl ?_); (try (refine gate_guard (by rfl) ?_; dsimp only)); refine lq_ BK340 44 1 ?_) | ((with_reducible refine gate_dst (N := 8) rfl ?_); (try (refine gate_guard (by rfl) ?_; dsimp only)); refine lo_ BK340 4 7 13 _ ?_) | ((with_reducible refine gate_dst (N := 11) rfl ?_); (try (refine gate_guard (by rfl) ?_; dsimp only)); refine lp_ BK340 42 10 0 [.int .i64 a0_0, .int .i64 a0_1, .int .i64 a0_2, .int .i64 a0_3, .int .i64 a0_4, .bool a0_5, .int .i64 a0_6, .int .i64 a0_7, .int .i64 a0_8, .int .i64 a0_9, .bool a0_10, .string a0_11, .int .i64 a0_12] ?_) | ((with_reducible refine gate_dst (N := 13) rfl ?_); (try (refine gate_guard (by rfl) ?_; dsimp only)); refine lp_ BK340 42 12 14 [.int .i64 a0_14, .int .i64 a0_15, .int .i64 a0_16, .int .i64 a0_17, .int .i64 a0_18, .bool a0_19, .int .i64 a0_20, .int .i64 a0_21, .int .i64 a0_22, .int .i64 a0_23, .bool a0_24, .string a0_25, .int .i64 a0_26] ?_) | ((with_reducible refine gate_dst (N := 1) rfl ?_); refine bx_ (cs := #[.int .i64 a0_0, .int .i64 a0_1, .int .i64 a0_2, .int .i64 a0_3, .int .i64 a0_4, .bool a0_5, .int .i64 a0_6, .int .i64 a0_7, .int .i64 a0_8, .int .i64 a0_9, .bool a0_10, .string a0_11, .int .i64 a0_12, .bool false, .int .i64 a0_14, .int .i64 a0_15, .int .i64 a0_16, .int .i64 a0_17, .int .i64 a0_18, .bool a0_19, .int .i64 a0_20, .int .i64 a0_21, .int .i64 a0_22, .int .i64 a0_23, .bool a0_24, .string a0_25, .int .i64 a0_26]) (t := 44) ?_; intro gb340 hg w11 hbox hb; have BK340 := am_ (hbox); have GW340 := gz_ hg HB; have GE340 := gz_ hg HB; replace HB := am_ (bt_ HB hb); clear hb hbox hg) | ((with_reducible refine gate_callee (f := 28) rfl ?_); refine goesL_ (some 5) rfl rfl Tryz.func28 (by kernel_rfl) rfl #[.agg #[.int .i64 a0_0, .int .i64 a0_1, .int .i64 a0_2, .int .i64 a0_3, .int .i64 a0_4, .bool a0_5, .int .i64 a0_6, .int .i64 a0_7, .int .i64 a0_8, .int .i64 a0_9, .bool a0_10, .string a0_11, .int .i64 a0_12, .bool false, .int .i64 a0_14, .int .i64 a0_15, .int .i64 a0_16, .int .i64 a0_17, .int .i64 a0_18, .bool a0_19, .int .i64 a0_20, .int .i64 a0_21, .int .i64 a0_22, .int .i64 a0_23, .bool a0_24, .string a0_25, .int .i64 a0_26]] rfl args_ ?_; (with_reducible refine (impl_IsSign.calls (w := _) (h := A2.out)).mono ?_); rintro e w13 ⟨rfl, hb⟩; refine ⟨_, rfl, ?_⟩; replace BK340 := am_ (lb_ BK340 hb); replace HB := am_ (below_step (bb1_ HB GE340) hb); clear hb))
   go_ret2
   exact ⟨ew_, bb1_ HB GE340⟩
 ·replace c3 := Bool.eq_false_iff.mpr c3
  subst c3
  have H1 : (some (0, false)) = some (r1, r2) := by rw [if_neg (show ¬ (false = true) by decide)] at H; exact H
  clear H
  have H := H1
  clear H1
  simp only [Option.some.injEq, Prod.mk.injEq] at H
  obtain ⟨rfl, rfl⟩ := H
  go_enter Tryz.func12, Tryz.ntmps12
  go_wp2_with (first | ((with_reducible refine gate_dst (N := 4) rfl ?_); (try (refine gate_guard (by rfl) ?_; dsimp only)); refine lq_ BK340 44 1 ?_) | ((with_reducible refine gate_dst (N := 8) rfl ?_); (try (refine gate_guard (by rfl) ?_; dsimp only)); refine lo_ BK340 4 7 13 _ ?_) | ((with_reducible refine gate_dst (N := 11) rfl ?_); (try (refine gate_guard (by rfl) ?_; dsimp only)); refine lp_ BK340 42 10 0 [.int .i64 a0_0, .int .i64 a0_1, .int .i64 a0_2, .int .i64 a0_3, .int .i64 a0_4, .bool a0_5, .int .i64 a0_6, .int .i64 a0_7, .int .i64 a0_8, .int .i64 a0_9, .bool a0_10, .string a0_11, .int .i64 a0_12] ?_) | ((with_reducible refine gate_dst (N := 13) rfl ?_); (try (refine gate_guard (by rfl) ?_; dsimp only)); refine lp_ BK340 42 12 14 [.int .i64 a0_14, .int .i64 a0_15, .int .i64 a0_16, .int .i64 a0_17, .int .i64 a0_18, .bool a0_19, .int .i64 a0_20, .int .i64 a0_21, .int .i64 a0_22, .int .i64 a0_23, .bool a0_24, .string a0_25, .int .i64 a0_26] ?_) | ((with_reducible refine gate_dst (N := 1) rfl ?_); refine bx_ (cs := #[.int .i64 a0_0, .int .i64 a0_1, .int .i64 a0_2, .int .i64 a0_3, .int .i64 a0_4, .bool a0_5, .int .i64 a0_6, .int .i64 a0_7, .int .i64 a0_8, .int .i64 a0_9, .bool a0_10, .string a0_11, .int .i64 a0_12, .bool a0_13, .int .i64 a0_14, .int .i64 a0_15, .int .i64 a0_16, .int .i64 a0_17, .int .i64 a0_18, .bool a0_19, .int .i64 a0_20, .int .i64 a0_21, .int .i64 a0_22, .int .i64 a0_23, .bool a0_24, .string a0_25, .int .i64 a0_26]) (t := 44) ?_; intro gb340 hg w15 hbox hb; have BK340 := am_ (hbox); have GW340 := gz_ hg HB; have GE340 := gz_ hg HB; replace HB := am_ (bt_ HB hb); clear hb hbox hg) | ((with_reducible refine gate_callee (f := 28) rfl ?_); refine goesL_ (some 5) rfl rfl Tryz.func28 (by kernel_rfl) rfl #[.agg #[.int .i64 a0_0, .int .i64 a0_1, .int .i64 a0_2, .int .i64 a0_3, .int .i64 a0_4, .bool a0_5, .int .i64 a0_6, .int .i64 a0_7, .int .i64 a0_8, .int .i64 a0_9, .bool a0_10, .string a0_11, .int .i64 a0_12, .bool a0_13, .int .i64 a0_14, .int .i64 a0_15, .int .i64 a0_16, .int .i64 a0_17, .int .i64 a0_18, .bool a0_19, .int .i64 a0_20, .int .i64 a0_21, .int .i64 a0_22, .int .i64 a0_23, .bool a0_24, .string a0_25, .int .i64 a0_26]] rfl args_ ?_; (with_reducible refine (impl_IsSign.calls (w := _) (h := A2.out)).mono ?_); rintro e w17 ⟨rfl, hb⟩; refine ⟨_, rfl, ?_⟩; replace BK340 := am_ (lb_ BK340 hb); replace HB := am_ (below_step (bb1_ HB GE340) hb); clear hb))
  go_ret2
  exact ⟨ew_, bb1_ HB GE340⟩

/-! ### laws_FnExactSharedParts: function 3 -/
def laws_FnExactSharedParts.f (k : Nat) (a0_0 a0_1 : Int) (a0_2 a0_3 a0_4 : Int) (a0_5 : Bool) (a0_6 a0_7 : Int) (a0_8 a0_9 : Int) (a0_10 : Bool) (a0_11 : ByteArray) (a0_12 : Int) (a0_13 : Bool) (a0_14 a0_15 : Int) (a0_16 a0_17 a0_18 : Int) (a0_19 : Bool) (a0_20 a0_21 : Int) (a0_22 a0_23 : Int) (a0_24 : Bool) (a0_25 : ByteArray) (a0_26 : Int) : Option (Bool) := (laws_szSign.f a0_0 a0_1 a0_2 a0_3 a0_4 a0_5 a0_6 a0_7 a0_8 a0_9 a0_10 a0_11 a0_12 a0_13 a0_14 a0_15 a0_16 a0_17 a0_18 a0_19 a0_20 a0_21 a0_22 a0_23 a0_24 a0_25 a0_26 1048576).bind fun t344 => (if t344 < 0 then (some true) else ((laws_toSign.f a0_0 a0_1 a0_2 a0_3 a0_4 a0_5 a0_6 a0_7 a0_8 a0_9 a0_10 a0_11 a0_12 a0_13 a0_14 a0_15 a0_16 a0_17 a0_18 a0_19 a0_20 a0_21 a0_22 a0_23 a0_24 a0_25 a0_26).bind fun bt345 => ((spec_SharedParts.f k bt345.1 bt345.2.1 bt345.2.2.1 bt345.2.2.2.1 bt345.2.2.2.2.1 bt345.2.2.2.2.2.1 bt345.2.2.2.2.2.2.1 bt345.2.2.2.2.2.2.2.1 bt345.2.2.2.2.2.2.2.2.1 bt345.2.2.2.2.2.2.2.2.2.1 bt345.2.2.2.2.2.2.2.2.2.2.1 bt345.2.2.2.2.2.2.2.2.2.2.2.1 bt345.2.2.2.2.2.2.2.2.2.2.2.2.1 bt345.2.2.2.2.2.2.2.2.2.2.2.2.2.1 bt345.2.2.2.2.2.2.2.2.2.2.2.2.2.2.1 bt345.2.2.2.2.2.2.2.2.2.2.2.2.2.2.2.1 bt345.2.2.2.2.2.2.2.2.2.2.2.2.2.2.2.2.1 bt345.2.2.2.2.2.2.2.2.2.2.2.2.2.2.2.2.2.1 bt345.2.2.2.2.2.2.2.2.2.2.2.2.2.2.2.2.2.2.1 bt345.2.2.2.2.2.2.2.2.2.2.2.2.2.2.2.2.2.2.2.1 bt345.2.2.2.2.2.2.2.2.2.2.2.2.2.2.2.2.2.2.2.2.1 bt345.2.2.2.2.2.2.2.2.2.2.2.2.2.2.2.2.2.2.2.2.2.1 bt345.2.2.2.2.2.2.2.2.2.2.2.2.2.2.2.2.2.2.2.2.2.2.1 bt345.2.2.2.2.2.2.2.2.2.2.2.2.2.2.2.2.2.2.2.2.2.2.2.1 bt345.2.2.2.2.2.2.2.2.2.2.2.2.2.2.2.2.2.2.2.2.2.2.2.2.1 bt345.2.2.2.2.2.2.2.2.2.2.2.2.2.2.2.2.2.2.2.2.2.2.2.2.2.1 bt345.2.2.2.2.2.2.2.2.2.2.2.2.2.2.2.2.2.2.2.2.2.2.2.2.2.2).bind fun bt372 => ((laws_toSign.f a0_0 a0_1 a0_2 a0_3 a0_4 a0_5 a0_6 a0_7 a0_8 a0_9 a0_10 a0_11 a0_12 a0_13 a0_14 a0_15 a0_16 a0_17 a0_18 a0_19 a0_20 a0_21 a0_22 a0_23 a0_24 a0_25 a0_26).bind fun bt374 => ((impl_SharedParts.f k bt374.1 bt374.2.1 bt374.2.2.1 bt374.2.2.2.1 bt374.2.2.2.2.1 bt374.2.2.2.2.2.1 bt374.2.2.2.2.2.2.1 bt374.2.2.2.2.2.2.2.1 bt374.2.2.2.2.2.2.2.2.1 bt374.2.2.2.2.2.2.2.2.2.1 bt374.2.2.2.2.2.2.2.2.2.2.1 bt374.2.2.2.2.2.2.2.2.2.2.2.1 bt374.2.2.2.2.2.2.2.2.2.2.2.2.1 bt374.2.2.2.2.2.2.2.2.2.2.2.2.2.1 bt374.2.2.2.2.2.2.2.2.2.2.2.2.2.2.1 bt374.2.2.2.2.2.2.2.2.2.2.2.2.2.2.2.1 bt374.2.2.2.2.2.2.2.2.2.2.2.2.2.2.2.2.1 bt374.2.2.2.2.2.2.2.2.2.2.2.2.2.2.2.2.2.1 bt374.2.2.2.2.2.2.2.2.2.2.2.2.2.2.2.2.2.2.1 bt374.2.2.2.2.2.2.2.2.2.2.2.2.2.2.2.2.2.2.2.1 bt374.2.2.2.2.2.2.2.2.2.2.2.2.2.2.2.2.2.2.2.2.1 bt374.2.2.2.2.2.2.2.2.2.2.2.2.2.2.2.2.2.2.2.2.2.1 bt374.2.2.2.2.2.2.2.2.2.2.2.2.2.2.2.2.2.2.2.2.2.2.1 bt374.2.2.2.2.2.2.2.2.2.2.2.2.2.2.2.2.2.2.2.2.2.2.2.1 bt374.2.2.2.2.2.2.2.2.2.2.2.2.2.2.2.2.2.2.2.2.2.2.2.2.1 bt374.2.2.2.2.2.2.2.2.2.2.2.2.2.2.2.2.2.2.2.2.2.2.2.2.2.1 bt374.2.2.2.2.2.2.2.2.2.2.2.2.2.2.2.2.2.2.2.2.2.2.2.2.2.2).bind fun bt401 => (if bt401.1 = bt372.1 then (if (bt401.2 != bt372.2) = true then (none) else (some true)) else (none)))))))
theorem laws_FnExactSharedParts.mono : ∀ a0 a1 a2 a3 a4 a5 a6 a7 a8 a9 a10 a11 a12 a13 a14 a15 a16 a17 a18 a19 a20 a21 a22 a23 a24 a25 a26 k, LeO (laws_FnExactSharedParts.f k a0 a1 a2 a3 a4 a5 a6 a7 a8 a9 a10 a11 a12 a13 a14 a15 a16 a17 a18 a19 a20 a21 a22 a23 a24 a25 a26) (laws_FnExactSharedParts.f (k + 1) a0 a1 a2 a3 a4 a5 a6 a7 a8 a9 a10 a11 a12 a13 a14 a15 a16 a17 a18 a19 a20 a21 a22 a23 a24 a25 a26) := by
 intro a0 a1 a2 a3 a4 a5 a6 a7 a8 a9 a10 a11 a12 a13 a14 a15 a16 a17 a18 a19 a20 a21 a22 a23 a24 a25 a26 k
 unfold laws_FnExactSharedParts.f
 repeat' first
   | (with_reducible exact impl_SharedParts.mono _ _ _ _ _ _ _ _ _ _ _ _ _ _ _ _ _ _ _ _ _ _ _ _ _ _ _ _)
   | (with_reducible exact spec_SharedParts.mono _ _ _ _ _ _ _ _ _ _ _ _ _ _ _ _ _ _ _ _ _ _ _ _ _ _ _ _)
   | (with_reducible exact LeO.refl _)
   | (with_reducible exact LeO.none _)
   | (with_reducible refine LeO.ite ?_ ?_)
   | (with_reducible refine LeO.bind ?_ (fun _ => ?_))
   | exact LeO.none _
   | refine LeO.ite ?_ ?_
   | refine LeO.bind ?_ (fun _ => ?_)
set_option maxHeartbeats 8000000 in
set_option maxRecDepth 100000 in
theorem laws_FnExactSharedParts.calls (k : Nat) (a0_0 a0_1 : Int) (a0_2 a0_3 a0_4 : Int) (a0_5 : Bool) (a0_6 a0_7 : Int) (a0_8 a0_9 : Int) (a0_10 : Bool) (a0_11 : ByteArray) (a0_12 : Int) (a0_13 : Bool) (a0_14 a0_15 : Int) (a0_16 a0_17 a0_18 : Int) (a0_19 : Bool) (a0_20 a0_21 : Int) (a0_22 a0_23 : Int) (a0_24 : Bool) (a0_25 : ByteArray) (a0_26 : Int) (r : Bool) (w : World) (h : laws_FnExactSharedParts.f k a0_0 a0_1 a0_2 a0_3 a0_4 a0_5 a0_6 a0_7 a0_8 a0_9 a0_10 a0_11 a0_12 a0_13 a0_14 a0_15 a0_16 a0_17 a0_18 a0_19 a0_20 a0_21 a0_22 a0_23 a0_24 a0_25 a0_26 = some r) :
  Calls Tryz.prog 3 #[.agg #[.int .i64 a0_0, .int .i64 a0_1, .int .i64 a0_2, .int .i64 a0_3, .int .i64 a0_4, .bool a0_5, .int .i64 a0_6, .int .i64 a0_7, .int .i64 a0_8, .int .i64 a0_9, .bool a0_10, .string a0_11, .int .i64 a0_12, .bool a0_13, .int .i64 a0_14, .int .i64 a0_15, .int .i64 a0_16, .int .i64 a0_17, .int .i64 a0_18, .bool a0_19, .int .i64 a0_20, .int .i64 a0_21, .int .i64 a0_22, .int .i64 a0_23, .bool a0_24, .string a0_25, .int .i64 a0_26]] w fun e w' => e = .returned (.bool r) ∧ Below w.heap.size w w' := by
 have hu33 := Tryz.underlying33
 have HB := am_ (Below.refl w.heap.size w)
 have H : ((laws_szSign.f a0_0 a0_1 a0_2 a0_3 a0_4 a0_5 a0_6 a0_7 a0_8 a0_9 a0_10 a0_11 a0_12 a0_13 a0_14 a0_15 a0_16 a0_17 a0_18 a0_19 a0_20 a0_21 a0_22 a0_23 a0_24 a0_25 a0_26 1048576).bind fun t344 => (if t344 < 0 then (some true) else ((laws_toSign.f a0_0 a0_1 a0_2 a0_3 a0_4 a0_5 a0_6 a0_7 a0_8 a0_9 a0_10 a0_11 a0_12 a0_13 a0_14 a0_15 a0_16 a0_17 a0_18 a0_19 a0_20 a0_21 a0_22 a0_23 a0_24 a0_25 a0_26).bind fun bt345 => ((spec_SharedParts.f k bt345.1 bt345.2.1 bt345.2.2.1 bt345.2.2.2.1 bt345.2.2.2.2.1 bt345.2.2.2.2.2.1 bt345.2.2.2.2.2.2.1 bt345.2.2.2.2.2.2.2.1 bt345.2.2.2.2.2.2.2.2.1 bt345.2.2.2.2.2.2.2.2.2.1 bt345.2.2.2.2.2.2.2.2.2.2.1 bt345.2.2.2.2.2.2.2.2.2.2.2.1 bt345.2.2.2.2.2.2.2.2.2.2.2.2.1 bt345.2.2.2.2.2.2.2.2.2.2.2.2.2.1 bt345.2.2.2.2.2.2.2.2.2.2.2.2.2.2.1 bt345.2.2.2.2.2.2.2.2.2.2.2.2.2.2.2.1 bt345.2.2.2.2.2.2.2.2.2.2.2.2.2.2.2.2.1 bt345.2.2.2.2.2.2.2.2.2.2.2.2.2.2.2.2.2.1 bt345.2.2.2.2.2.2.2.2.2.2.2.2.2.2.2.2.2.2.1 bt345.2.2.2.2.2.2.2.2.2.2.2.2.2.2.2.2.2.2.2.1 bt345.2.2.2.2.2.2.2.2.2.2.2.2.2.2.2.2.2.2.2.2.1 bt345.2.2.2.2.2.2.2.2.2.2.2.2.2.2.2.2.2.2.2.2.2.1 bt345.2.2.2.2.2.2.2.2.2.2.2.2.2.2.2.2.2.2.2.2.2.2.1 bt345.2.2.2.2.2.2.2.2.2.2.2.2.2.2.2.2.2.2.2.2.2.2.2.1 bt345.2.2.2.2.2.2.2.2.2.2.2.2.2.2.2.2.2.2.2.2.2.2.2.2.1 bt345.2.2.2.2.2.2.2.2.2.2.2.2.2.2.2.2.2.2.2.2.2.2.2.2.2.1 bt345.2.2.2.2.2.2.2.2.2.2.2.2.2.2.2.2.2.2.2.2.2.2.2.2.2.2).bind fun bt372 => ((laws_toSign.f a0_0 a0_1 a0_2 a0_3 a0_4 a0_5 a0_6 a0_7 a0_8 a0_9 a0_10 a0_11 a0_12 a0_13 a0_14 a0_15 a0_16 a0_17 a0_18 a0_19 a0_20 a0_21 a0_22 a0_23 a0_24 a0_25 a0_26).bind fun bt374 => ((impl_SharedParts.f k bt374.1 bt374.2.1 bt374.2.2.1 bt374.2.2.2.1 bt374.2.2.2.2.1 bt374.2.2.2.2.2.1 bt374.2.2.2.2.2.2.1 bt374.2.2.2.2.2.2.2.1 bt374.2.2.2.2.2.2.2.2.1 bt374.2.2.2.2.2.2.2.2.2.1 bt374.2.2.2.2.2.2.2.2.2.2.1 bt374.2.2.2.2.2.2.2.2.2.2.2.1 bt374.2.2.2.2.2.2.2.2.2.2.2.2.1 bt374.2.2.2.2.2.2.2.2.2.2.2.2.2.1 bt374.2.2.2.2.2.2.2.2.2.2.2.2.2.2.1 bt374.2.2.2.2.2.2.2.2.2.2.2.2.2.2.2.1 bt374.2.2.2.2.2.2.2.2.2.2.2.2.2.2.2.2.1 bt374.2.2.2.2.2.2.2.2.2.2.2.2.2.2.2.2.2.1 bt374.2.2.2.2.2.2.2.2.2.2.2.2.2.2.2.2.2.2.1 bt374.2.2.2.2.2.2.2.2.2.2.2.2.2.2.2.2.2.2.2.1 bt374.2.2.2.2.2.2.2.2.2.2.2.2.2.2.2.2.2.2.2.2.1 bt374.2.2.2.2.2.2.2.2.2.2.2.2.2.2.2.2.2.2.2.2.2.1 bt374.2.2.2.2.2.2.2.2.2.2.2.2.2.2.2.2.2.2.2.2.2.2.1 bt374.2.2.2.2.2.2.2.2.2.2.2.2.2.2.2.2.2.2.2.2.2.2.2.1 bt374.2.2.2.2.2.2.2.2.2.2.2.2.2.2.2.2.2.2.2.2.2.2.2.2.1 bt374.2.2.2.2.2.2.2.2.2.2.2.2.2.2.2.2.2.2.2.2.2.2.2.2.2.1 bt374.2.2.2.2.2.2.2.2.2.2.2.2.2.2.2.2.2.2.2.2.2.2.2.2.2.2).bind fun bt401 => (if bt401.1 = bt372.1 then (if (bt401.2 != bt372.2) = true then (none) else (some true)) else (none)))))))) = some r := h
 clear h
 replace H := Option.bind_eq_some_iff.mp H
 obtain ⟨t344, A20, H⟩ := H
 try dsimp only at H
 have A2 := Aside0.mk A20
 clear A20
 by_cases c3 : t344 < 0
 ·rw [if_pos c3] at H
  have c3b0 : decide (t344 < 0) = true := decide_eq_true c3
  clear c3
  obtain rfl := Option.some.inj H
  go_enter Tryz.func3, Tryz.ntmps3
  go_wp2_with (first | ((with_reducible refine gate_dst (N := 8) rfl ?_); (try (refine gate_guard (by rfl) ?_; dsimp only)); refine lq_ BK343 33 1 ?_) | ((with_reducible refine gate_dst (N := 14) rfl ?_); (try (refine gate_guard (by rfl) ?_; dsimp only)); refine lq_ BK343 33 1 ?_) | ((with_reducible refine gate_dst (N := 20) rfl ?_); (try (refine gate_guard (by rfl) ?_; dsimp only)); refine lq_ BK343 33 1 ?_) | ((with_reducible refine gate_dst (N := 1) rfl ?_); refine bx_ (cs := #[.int .i64 a0_0, .int .i64 a0_1, .int .i64 a0_2, .int .i64 a0_3, .int .i64 a0_4, .bool a0_5, .int .i64 a0_6, .int .i64 a0_7, .int .i64 a0_8, .int .i64 a0_9, .bool a0_10, .string a0_11, .int .i64 a0_12, .bool a0_13, .int .i64 a0_14, .int .i64 a0_15, .int .i64 a0_16, .int .i64 a0_17, .int .i64 a0_18, .bool a0_19, .int .i64 a0_20, .int .i64 a0_21, .int .i64 a0_22, .int .i64 a0_23, .bool a0_24, .string a0_25, .int .i64 a0_26]) (t := 33) ?_; intro gb343 hg w4 hbox hb; have BK343 := am_ (hbox); have GW343 := gz_ hg HB; have GE343 := gz_ hg HB; replace HB := am_ (bt_ HB hb); clear hb hbox hg) | ((with_reducible refine gate_callee (f := 9) rfl ?_); refine goesL_ (some 10) rfl rfl Tryz.func9 (by kernel_rfl) rfl #[.agg #[.int .i64 a0_0, .int .i64 a0_1, .int .i64 a0_2, .int .i64 a0_3, .int .i64 a0_4, .bool a0_5, .int .i64 a0_6, .int .i64 a0_7, .int .i64 a0_8, .int .i64 a0_9, .bool a0_10, .string a0_11, .int .i64 a0_12, .bool a0_13, .int .i64 a0_14, .int .i64 a0_15, .int .i64 a0_16, .int .i64 a0_17, .int .i64 a0_18, .bool a0_19, .int .i64 a0_20, .int .i64 a0_21, .int .i64 a0_22, .int .i64 a0_23, .bool a0_24, .string a0_25, .int .i64 a0_26], .int .i64 1048576] rfl args_ ?_; (with_reducible refine (laws_szSign.calls (w := _) (h := A2.out)).mono ?_); rintro e w6 ⟨rfl, hb⟩; refine ⟨_, rfl, ?_⟩; replace BK343 := am_ (lb_ BK343 hb); replace HB := am_ (below_step (bb1_ HB GE343) hb); clear hb))
  go_ret
  exact ⟨ew_, bb1_ HB GE343⟩
 ·rw [if_neg c3] at H
  have c3b0 : decide (t344 < 0) = false := decide_eq_false c3
  clear c3
  replace H := Option.bind_eq_some_iff.mp H
  obtain ⟨⟨t345, t346, t347, t348, t349, t350, t351, t352, t353, t354, t355, t356, t357, t358, t359, t360, t361, t362, t363, t364, t365, t366, t367, t368, t369, t370, t371⟩, A70, H⟩ := H
  try dsimp only at H
  have A7 := Aside0.mk A70
  clear A70
  replace H := Option.bind_eq_some_iff.mp H
  obtain ⟨⟨t372, t373⟩, A80, H⟩ := H
  try dsimp only at H
  have A8 := Aside0.mk A80
  clear A80
  replace H := Option.bind_eq_some_iff.mp H
  obtain ⟨⟨t374, t375, t376, t377, t378, t379, t380, t381, t382, t383, t384, t385, t386, t387, t388, t389, t390, t391, t392, t393, t394, t395, t396, t397, t398, t399, t400⟩, A90, H⟩ := H
  try dsimp only at H
  have A9 := Aside0.mk A90
  clear A90
  replace H := Option.bind_eq_some_iff.mp H
  obtain ⟨⟨t401, t402⟩, A100, H⟩ := H
  try dsimp only at H
  have A10 := Aside0.mk A100
  clear A100
  by_cases c11 : t401 = t372
  ·rw [if_pos c11] at H
   have c11b0 : (t401 == t372) = true := beq_iff_eq.mpr c11
   have c11b1 : (t401 != t372) = false := bne_eq_false_iff_eq.mpr c11
   clear c11
   by_cases c12 : (t402 != t373) = true
   ·rw [if_pos c12] at H
    exact absurd H (by simp)
   ·rw [if_neg c12] at H
    have c12b0 : (t402 != t373) = false := by simpa using c12
    (try (have c12b1 : decide (t402 = t373) = true := by simpa using c12))
    (try (have c12b2 : (t402 == t373) = true := by simpa using c12))
    clear c12
    obtain rfl := Option.some.inj H
    go_enter Tryz.func3, Tryz.ntmps3
    go_wp2_with (first | ((with_reducible refine gate_dst (N := 8) rfl ?_); (try (refine gate_guard (by rfl) ?_; dsimp only)); refine lq_ BK343 33 1 ?_) | ((with_reducible refine gate_dst (N := 14) rfl ?_); (try (refine gate_guard (by rfl) ?_; dsimp only)); refine lq_ BK343 33 1 ?_) | ((with_reducible refine gate_dst (N := 20) rfl ?_); (try (refine gate_guard (by rfl) ?_; dsimp only)); refine lq_ BK343 33 1 ?_) | ((with_reducible refine gate_dst (N := 1) rfl ?_); refine bx_ (cs := #[.int .i64 a0_0, .int .i64 a0_1, .int .i64 a0_2, .int .i64 a0_3, .int .i64 a0_4, .bool a0_5, .int .i64 a0_6, .int .i64 a0_7, .int .i64 a0_8, .int .i64 a0_9, .bool a0_10, .string a0_11, .int .i64 a0_12, .bool a0_13, .int .i64 a0_14, .int .i64 a0_15, .int .i64 a0_16, .int .i64 a0_17, .int .i64 a0_18, .bool a0_19, .int .i64 a0_20, .int .i64 a0_21, .int .i64 a0_22, .int .i64 a0_23, .bool a0_24, .string a0_25, .int .i64 a0_26]) (t := 33) ?_; intro gb343 hg w13 hbox hb; have BK343 := am_ (hbox); have GW343 := gz_ hg HB; have GE343 := gz_ hg HB; replace HB := am_ (bt_ HB hb); clear hb hbox hg) | ((with_reducible refine gate_callee (f := 9) rfl ?_); refine goesL_ (some 10) rfl rfl Tryz.func9 (by kernel_rfl) rfl #[.agg #[.int .i64 a0_0, .int .i64 a0_1, .int .i64 a0_2, .int .i64 a0_3, .int .i64 a0_4, .bool a0_5, .int .i64 a0_6, .int .i64 a0_7, .int .i64 a0_8, .int .i64 a0_9, .bool a0_10, .string a0_11, .int .i64 a0_12, .bool a0_13, .int .i64 a0_14, .int .i64 a0_15, .int .i64 a0_16, .int .i64 a0_17, .int .i64 a0_18, .bool a0_19, .int .i64 a0_20, .int .i64 a0_21, .int .i64 a0_22, .int .i64 a0_23, .bool a0_24, .string a0_25, .int .i64 a0_26], .int .i64 1048576] rfl args_ ?_; (with_reducible refine (laws_szSign.calls (w := _) (h := A2.out)).mono ?_); rintro e w15 ⟨rfl, hb⟩; refine ⟨_, rfl, ?_⟩; replace BK343 := am_ (lb_ BK343 hb); replace HB := am_ (below_step (bb1_ HB GE343) hb); clear hb) | ((with_reducible refine gate_callee (f := 11) rfl ?_); refine goesL_ (some 15) rfl rfl Tryz.func11 (by kernel_rfl) rfl #[.agg #[.int .i64 a0_0, .int .i64 a0_1, .int .i64 a0_2, .int .i64 a0_3, .int .i64 a0_4, .bool a0_5, .int .i64 a0_6, .int .i64 a0_7, .int .i64 a0_8, .int .i64 a0_9, .bool a0_10, .string a0_11, .int .i64 a0_12, .bool a0_13, .int .i64 a0_14, .int .i64 a0_15, .int .i64 a0_16, .int .i64 a0_17, .int .i64 a0_18, .bool a0_19, .int .i64 a0_20, .int .i64 a0_21, .int .i64 a0_22, .int .i64 a0_23, .bool a0_24, .string a0_25, .int .i64 a0_26]] rfl args_ ?_; (with_reducible refine (laws_toSign.calls (w := _) (h := A7.out)).mono ?_); rintro e w17 ⟨rfl, hb⟩; refine ⟨_, rfl, ?_⟩; replace BK343 := am_ (lb_ BK343 hb); replace HB := am_ (below_step (bb1_ HB GE343) hb); clear hb) | ((with_reducible refine gate_callee (f := 10) rfl ?_); refine goesL_ (some 16) rfl rfl Tryz.func10 (by kernel_rfl) rfl #[.agg #[.int .i64 t345, .int .i64 t346, .int .i64 t347, .int .i64 t348, .int .i64 t349, .bool t350, .int .i64 t351, .int .i64 t352, .int .i64 t353, .int .i64 t354, .bool t355, .string t356, .int .i64 t357, .bool t358, .int .i64 t359, .int .i64 t360, .int .i64 t361, .int .i64 t362, .int .i64 t363, .bool t364, .int .i64 t365, .int .i64 t366, .int .i64 t367, .int .i64 t368, .bool t369, .string t370, .int .i64 t371]] rfl args_ ?_; (with_reducible refine (spec_SharedParts.calls (w := _) (h := A8.out)).mono ?_); rintro e w18 ⟨rfl, hb⟩; refine ⟨_, rfl, ?_⟩; replace BK343 := am_ (lb_ BK343 hb); replace HB := am_ (below_step (bb1_ HB GE343) hb); clear hb) | ((with_reducible refine gate_callee (f := 11) rfl ?_); refine goesL_ (some 21) rfl rfl Tryz.func11 (by kernel_rfl) rfl #[.agg #[.int .i64 a0_0, .int .i64 a0_1, .int .i64 a0_2, .int .i64 a0_3, .int .i64 a0_4, .bool a0_5, .int .i64 a0_6, .int .i64 a0_7, .int .i64 a0_8, .int .i64 a0_9, .bool a0_10, .string a0_11, .int .i64 a0_12, .bool a0_13, .int .i64 a0_14, .int .i64 a0_15, .int .i64 a0_16, .int .i64 a0_17, .int .i64 a0_18, .bool a0_19, .int .i64 a0_20, .int .i64 a0_21, .int .i64 a0_22, .int .i64 a0_23, .bool a0_24, .string a0_25, .int .i64 a0_26]] rfl args_ ?_; (with_reducible refine (laws_toSign.calls (w := _) (h := A9.out)).mono ?_); rintro e w20 ⟨rfl, hb⟩; refine ⟨_, rfl, ?_⟩; replace BK343 := am_ (lb_ BK343 hb); replace HB := am_ (below_step (bb1_ HB GE343) hb); clear hb) | ((with_reducible refine gate_callee (f := 12) rfl ?_); refine goesL_ (some 22) rfl rfl Tryz.func12 (by kernel_rfl) rfl #[.agg #[.int .i64 t374, .int .i64 t375, .int .i64 t376, .int .i64 t377, .int .i64 t378, .bool t379, .int .i64 t380, .int .i64 t381, .int .i64 t382, .int .i64 t383, .bool t384, .string t385, .int .i64 t386, .bool t387, .int .i64 t388, .int .i64 t389, .int .i64 t390, .int .i64 t391, .int .i64 t392, .bool t393, .int .i64 t394, .int .i64 t395, .int .i64 t396, .int .i64 t397, .bool t398, .string t399, .int .i64 t400]] rfl args_ ?_; (with_reducible refine (impl_SharedParts.calls (w := _) (h := A10.out)).mono ?_); rintro e w21 ⟨rfl, hb⟩; refine ⟨_, rfl, ?_⟩; replace BK343 := am_ (lb_ BK343 hb); replace HB := am_ (below_step (bb1_ HB GE343) hb); clear hb))
    go_ret
    exact ⟨ew_, bb1_ HB GE343⟩
  ·rw [if_neg c11] at H
   exact absurd H (by simp)

end Go.Proofs.YtmbffgkejknfaaaGreatDoor.PA
