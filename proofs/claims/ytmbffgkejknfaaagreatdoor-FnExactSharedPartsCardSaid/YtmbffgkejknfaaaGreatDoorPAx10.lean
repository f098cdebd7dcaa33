-- Written by a program of this session (wip/tools/myprint.py). Not trusted: Lean checks it.
import Derived.Test.YtmbffgkejknfaaaGreatDoorSq4
import Derived.Test.YtmbffgkejknfaaaGreatDoorPAx0
import Derived.Test.YtmbffgkejknfaaaGreatDoorPAx1
import Derived.Test.YtmbffgkejknfaaaGreatDoorPAx2
import Derived.Test.YtmbffgkejknfaaaGreatDoorPAx7
import Derived.Test.YtmbffgkejknfaaaGreatDoorPAx8
import Derived.Test.YtmbffgkejknfaaaGreatDoorPAx9
namespace Go.Proofs.YtmbffgkejknfaaaGreatDoor.PA
open Go.RowKit Go.Proofs.YtmbffgkejknfaaaGreatDoorW.PrintWords Go.Proofs.YtmbffgkejknfaaaGreatDoorW.PrintLast Go.Proofs.YtmbffgkejknfaaaGreatDoorW.PrintMore
attribute [local go_sem] max2_int min2_int max_two min_two max_three min_three max_four min_four   -- for this text's walks alone
set_option linter.unusedVariables false
set_option linter.unusedSimpArgs false

attribute [local go_sem high] eqA37 eqA38
/-! ### spec_siBroken: function 46 -/
mutual
def spec_siBroken.l0 : Nat → List (S37) → Int → Int → Int → Int → Int → Int → Int → Bool → Int → Int → Int → Int → Bool → ByteArray → Int → Option (Int)
 | 0, _, _, _, _, _, _, _, _, _, _, _, _, _, _, _, _ => none
 | k + 1, x16, x17, x18, x184000, x184001, x184002, x184003, x184004, x184005, x184006, x184007, x184008, x184009, x184010, x184011, x184012 => if x18 < x17 then (if 0 ≤ x18 then (if x18 < (x16.length : Int) then (if (((rd_T37 x16 x18).f0) == x184000 && (((rd_T37 x16 x18).f1) == x184001 && (((rd_T37 x16 x18).f2) == x184002 && (((rd_T37 x16 x18).f3) == x184003 && (((rd_T37 x16 x18).f4) == x184004 && (((rd_T37 x16 x18).f5) == x184005)))))) = true then (some 0) else (spec_siBroken.l0 k x16 x17 (wrap64 (x18 + 1)) x184000 x184001 x184002 x184003 x184004 x184005 x184006 x184007 x184008 x184009 x184010 x184011 x184012)) else (none)) else (none)) else (some 4)
def spec_siBroken.j1 : Nat → Bool → Int → Int → Int → Int → Int → Bool → Int → Int → Int → Int → Bool → ByteArray → Int → Int → Int → Int → Int → Int → Bool → Int → Int → Int → Int → Bool → ByteArray → Int → Option (Int)
 | 0, _, _, _, _, _, _, _, _, _, _, _, _, _, _, _, _, _, _, _, _, _, _, _, _, _, _, _ => none
 | k + 1, x38, x183000, x183001, x183002, x183003, x183004, x183005, x183006, x183007, x183008, x183009, x183010, x183011, x183012, x184000, x184001, x184002, x184003, x184004, x184005, x184006, x184007, x184008, x184009, x184010, x184011, x184012 => if x38 = true then (some 2) else ((spec_mvAll.f k x183011 x183012).bind fun t191 => ((spec_mvAll.f k x184011 x184012).bind fun t192 => (if t191.toList = t192.toList then (some 0) else ((spec_mvMirror.f k x183011 x183012).bind fun bt193 => ((spec_mvAll.f k bt193.1 bt193.2).bind fun t195 => ((spec_mvAll.f k x184011 x184012).bind fun t196 => (if t195.toList = t196.toList then (some 0) else (some 3))))))))
end
def spec_siBroken.f (k : Nat) (a0_0 a0_1 : Int) (a0_2 a0_3 a0_4 : Int) (a0_5 : Bool) (a0_6 a0_7 : Int) (a0_8 a0_9 : Int) (a0_10 : Bool) (a0_11 : ByteArray) (a0_12 a1_0 : Int) (a1_1 a1_2 : Int) (a1_3 a1_4 : Int) (a1_5 : Bool) (a1_6 a1_7 : Int) (a1_8 a1_9 : Int) (a1_10 : Bool) (a1_11 : ByteArray) (a1_12 : Int) : Option (Int) := if a1_11.toList = ([] : List UInt8) then (if (a0_0 == a1_0 && (a0_1 == a1_1 && (a0_2 == a1_2 && (a0_3 == a1_3 && (a0_4 == a1_4 && (a0_5 == a1_5)))))) = true then (some 0) else ((spec_siPlain.f k).bind fun t184 => (spec_siBroken.l0 k t184 (t184.length : Int) 0 a1_0 a1_1 a1_2 a1_3 a1_4 a1_5 a1_6 a1_7 a1_8 a1_9 a1_10 a1_11 a1_12))) else (if a0_11.toList = ([] : List UInt8) then (some 3) else (if (!(a0_0 == a1_0) || (!(a0_1 == a1_1) || (!(a0_2 == a1_2) || (!(a0_3 == a1_3) || (!(a0_4 == a1_4) || (!(a0_5 == a1_5))))))) = true then (some 1) else (if (!(a0_6 == a1_6) || (!(a0_7 == a1_7))) = true then ((spec_orMirror.f a1_6 a1_7).bind fun bt189 => (spec_siBroken.j1 k (!(a0_6 == bt189.1) || (!(a0_7 == bt189.2))) a0_0 a0_1 a0_2 a0_3 a0_4 a0_5 a0_6 a0_7 a0_8 a0_9 a0_10 a0_11 a0_12 a1_0 a1_1 a1_2 a1_3 a1_4 a1_5 a1_6 a1_7 a1_8 a1_9 a1_10 a1_11 a1_12)) else (spec_siBroken.j1 k false a0_0 a0_1 a0_2 a0_3 a0_4 a0_5 a0_6 a0_7 a0_8 a0_9 a0_10 a0_11 a0_12 a1_0 a1_1 a1_2 a1_3 a1_4 a1_5 a1_6 a1_7 a1_8 a1_9 a1_10 a1_11 a1_12))))
theorem spec_siBroken.mono_l : ∀ k, (∀ y0 y1 y2 y3 y4 y5 y6 y7 y8 y9 y10 y11 y12 y13 y14 y15, LeO (spec_siBroken.l0 k y0 y1 y2 y3 y4 y5 y6 y7 y8 y9 y10 y11 y12 y13 y14 y15) (spec_siBroken.l0 (k + 1) y0 y1 y2 y3 y4 y5 y6 y7 y8 y9 y10 y11 y12 y13 y14 y15)) ∧ (∀ y0 y1 y2 y3 y4 y5 y6 y7 y8 y9 y10 y11 y12 y13 y14 y15 y16 y17 y18 y19 y20 y21 y22 y23 y24 y25 y26, LeO (spec_siBroken.j1 k y0 y1 y2 y3 y4 y5 y6 y7 y8 y9 y10 y11 y12 y13 y14 y15 y16 y17 y18 y19 y20 y21 y22 y23 y24 y25 y26) (spec_siBroken.j1 (k + 1) y0 y1 y2 y3 y4 y5 y6 y7 y8 y9 y10 y11 y12 y13 y14 y15 y16 y17 y18 y19 y20 y21 y22 y23 y24 y25 y26))
 | 0 => ⟨fun _ _ _ _ _ _ _ _ _ _ _ _ _ _ _ _ r h => by simp [spec_siBroken.l0] at h, fun _ _ _ _ _ _ _ _ _ _ _ _ _ _ _ _ _ _ _ _ _ _ _ _ _ _ _ r h => by simp [spec_siBroken.j1] at h⟩
 | k + 1 => by
  obtain ⟨ih0, ih1⟩ := spec_siBroken.mono_l k
  refine ⟨?_, ?_⟩
  ·intro y0 y1 y2 y3 y4 y5 y6 y7 y8 y9 y10 y11 y12 y13 y14 y15
   unfold spec_siBroken.l0
   repeat' first
   | (with_reducible exact ih0 _ _ _ _ _ _ _ _ _ _ _ _ _ _ _ _)
   | (with_reducible exact ih1 _ _ _ _ _ _ _ _ _ _ _ _ _ _ _ _ _ _ _ _ _ _ _ _ _ _ _)
   | (with_reducible exact spec_mvAll.mono _ _ _)
   | (with_reducible exact spec_mvMirror.mono _ _ _)
   | (with_reducible exact spec_siPlain.mono _)
   | (with_reducible exact LeO.refl _)
   | (with_reducible exact LeO.none _)
   | (with_reducible refine LeO.ite ?_ ?_)
   | (with_reducible refine LeO.bind ?_ (fun _ => ?_))
   | exact ih0 _ _ _ _ _ _ _ _ _ _ _ _ _ _ _ _
   | exact ih1 _ _ _ _ _ _ _ _ _ _ _ _ _ _ _ _ _ _ _ _ _ _ _ _ _ _ _
   | exact LeO.none _
   | refine LeO.ite ?_ ?_
   | refine LeO.bind ?_ (fun _ => ?_)
  ·intro y0 y1 y2 y3 y4 y5 y6 y7 y8 y9 y10 y11 y12 y13 y14 y15 y16 y17 y18 y19 y20 y21 y22 y23 y24 y25 y26
   unfold spec_siBroken.j1
   repeat' first
   | (with_reducible exact ih0 _ _ _ _ _ _ _ _ _ _ _ _ _ _ _ _)
   | (with_reducible exact ih1 _ _ _ _ _ _ _ _ _ _ _ _ _ _ _ _ _ _ _ _ _ _ _ _ _ _ _)
   | (with_reducible exact spec_mvAll.mono _ _ _)
   | (with_reducible exact spec_mvMirror.mono _ _ _)
   | (with_reducible exact spec_siPlain.mono _)
   | (with_reducible exact LeO.refl _)
   | (with_reducible exact LeO.none _)
   | (with_reducible refine LeO.ite ?_ ?_)
   | (with_reducible refine LeO.bind ?_ (fun _ => ?_))
   | exact ih0 _ _ _ _ _ _ _ _ _ _ _ _ _ _ _ _
   | exact ih1 _ _ _ _ _ _ _ _ _ _ _ _ _ _ _ _ _ _ _ _ _ _ _ _ _ _ _
   | exact LeO.none _
   | refine LeO.ite ?_ ?_
   | refine LeO.bind ?_ (fun _ => ?_)
theorem spec_siBroken.mono : ∀ a0 a1 a2 a3 a4 a5 a6 a7 a8 a9 a10 a11 a12 a13 a14 a15 a16 a17 a18 a19 a20 a21 a22 a23 a24 a25 k, LeO (spec_siBroken.f k a0 a1 a2 a3 a4 a5 a6 a7 a8 a9 a10 a11 a12 a13 a14 a15 a16 a17 a18 a19 a20 a21 a22 a23 a24 a25) (spec_siBroken.f (k + 1) a0 a1 a2 a3 a4 a5 a6 a7 a8 a9 a10 a11 a12 a13 a14 a15 a16 a17 a18 a19 a20 a21 a22 a23 a24 a25) := by
 intro a0 a1 a2 a3 a4 a5 a6 a7 a8 a9 a10 a11 a12 a13 a14 a15 a16 a17 a18 a19 a20 a21 a22 a23 a24 a25 k
 obtain ⟨ih0, ih1⟩ := spec_siBroken.mono_l k
 unfold spec_siBroken.f
 repeat' first
   | (with_reducible exact ih0 _ _ _ _ _ _ _ _ _ _ _ _ _ _ _ _)
   | (with_reducible exact ih1 _ _ _ _ _ _ _ _ _ _ _ _ _ _ _ _ _ _ _ _ _ _ _ _ _ _ _)
   | (with_reducible exact spec_mvAll.mono _ _ _)
   | (with_reducible exact spec_mvMirror.mono _ _ _)
   | (with_reducible exact spec_siPlain.mono _)
   | (with_reducible exact LeO.refl _)
   | (with_reducible exact LeO.none _)
   | (with_reducible refine LeO.ite ?_ ?_)
   | (with_reducible refine LeO.bind ?_ (fun _ => ?_))
   | exact ih0 _ _ _ _ _ _ _ _ _ _ _ _ _ _ _ _
   | exact ih1 _ _ _ _ _ _ _ _ _ _ _ _ _ _ _ _ _ _ _ _ _ _ _ _ _ _ _
   | exact LeO.none _
   | refine LeO.ite ?_ ?_
   | refine LeO.bind ?_ (fun _ => ?_)
def spec_siBroken.T15 : Bool × List (List Nat × List Nat) := (true, [([], []), ([0], [0]), ([], []), ([2], [2]), ([1, 3], [1, 3]), ([4], [4]), ([5], [5]), ([6, 5], [5, 6]), ([5], [5]), ([8, 5], [5, 8]), ([9, 5, 5], [5, 9]), ([7, 10, 5], [5, 7, 10]), ([5, 11], [5, 11]), ([12, 10], [12])])
def spec_siBroken.B15 : List Nat := [0, 1, 0, 4, 15, 31, 63, 127, 63, 319, 831, 2047, 4095, 8191]
theorem spec_siBroken.tab15 : rtab .any (opsOf Tryz.f46 15) = spec_siBroken.T15 := by kernel_rfl
theorem spec_siBroken.bits15 : waitsOk spec_siBroken.T15.2 spec_siBroken.B15 = true := by kernel_rfl
def spec_siBroken.T17 : Bool × List (List Nat × List Nat) := (true, [([], []), ([0], [0]), ([1], [1]), ([], []), ([3], [3]), ([4, 2], [4]), ([2, 5], [2, 5]), ([6, 5], [6]), ([7], [7]), ([8, 7], [7, 8]), ([9, 7, 7], [7, 9]), ([10, 10, 7], [7, 10]), ([7], [7]), ([12, 7], [7, 12]), ([13, 11, 7], [7, 13]), ([11, 14, 7], [7, 11, 14]), ([7, 15], [7, 15]), ([16, 14], [16])])
def spec_siBroken.B17 : List Nat := [0, 1, 3, 0, 8, 31, 63, 127, 255, 511, 1023, 2047, 255, 4351, 16383, 32767, 65535, 131071]
theorem spec_siBroken.tab17 : rtab .any (opsOf Tryz.f46 17) = spec_siBroken.T17 := by kernel_rfl
theorem spec_siBroken.bits17 : waitsOk spec_siBroken.T17.2 spec_siBroken.B17 = true := by kernel_rfl
abbrev spec_siBroken.S0 (z0_ z1_ : Nat) (z2_ z3_ : Int) (z4_ z5_ : Int) (z6_ z7_ : Int) (z8_ z9_ : Int) (z10_ z11_ : Int) (z12_ z13_ : Int) (z14_ z15_ : Int) (z16_ z17_ : Int) (z18_ z19_ : Int) (z20_ z21_ : Int) (z22_ z23_ : Bool) (z24_ z25_ : Bool) (z26_ z27_ : ByteArray) : World → Prop := fun w' => w'.cell? ⟨z0_, 0, none⟩ = some (.int .i64 z2_) ∧ w'.cell? ⟨z0_, 1, none⟩ = some (.int .i64 z3_) ∧ w'.cell? ⟨z0_, 2, none⟩ = some (.int .i64 z4_) ∧ w'.cell? ⟨z0_, 3, none⟩ = some (.int .i64 z5_) ∧ w'.cell? ⟨z0_, 4, none⟩ = some (.int .i64 z6_) ∧ w'.cell? ⟨z0_, 5, none⟩ = some (.bool z22_) ∧ w'.cell? ⟨z0_, 6, none⟩ = some (.int .i64 z7_) ∧ w'.cell? ⟨z0_, 7, none⟩ = some (.int .i64 z8_) ∧ w'.cell? ⟨z0_, 8, none⟩ = some (.int .i64 z9_) ∧ w'.cell? ⟨z0_, 9, none⟩ = some (.int .i64 z10_) ∧ w'.cell? ⟨z0_, 10, none⟩ = some (.bool z23_) ∧ w'.cell? ⟨z0_, 11, none⟩ = some (.string z26_) ∧ w'.cell? ⟨z0_, 12, none⟩ = some (.int .i64 z11_) ∧ w'.cell? ⟨z1_, 0, none⟩ = some (.int .i64 z12_) ∧ w'.cell? ⟨z1_, 1, none⟩ = some (.int .i64 z13_) ∧ w'.cell? ⟨z1_, 2, none⟩ = some (.int .i64 z14_) ∧ w'.cell? ⟨z1_, 3, none⟩ = some (.int .i64 z15_) ∧ w'.cell? ⟨z1_, 4, none⟩ = some (.int .i64 z16_) ∧ w'.cell? ⟨z1_, 5, none⟩ = some (.bool z24_) ∧ w'.cell? ⟨z1_, 6, none⟩ = some (.int .i64 z17_) ∧ w'.cell? ⟨z1_, 7, none⟩ = some (.int .i64 z18_) ∧ w'.cell? ⟨z1_, 8, none⟩ = some (.int .i64 z19_) ∧ w'.cell? ⟨z1_, 9, none⟩ = some (.int .i64 z20_) ∧ w'.cell? ⟨z1_, 10, none⟩ = some (.bool z25_) ∧ w'.cell? ⟨z1_, 11, none⟩ = some (.string z27_) ∧ w'.cell? ⟨z1_, 12, none⟩ = some (.int .i64 z21_)
set_option maxHeartbeats 8000000 in
set_option maxRecDepth 100000 in
theorem spec_siBroken.calls (k : Nat) (a0_0 a0_1 : Int) (a0_2 a0_3 a0_4 : Int) (a0_5 : Bool) (a0_6 a0_7 : Int) (a0_8 a0_9 : Int) (a0_10 : Bool) (a0_11 : ByteArray) (a0_12 a1_0 : Int) (a1_1 a1_2 : Int) (a1_3 a1_4 : Int) (a1_5 : Bool) (a1_6 a1_7 : Int) (a1_8 a1_9 : Int) (a1_10 : Bool) (a1_11 : ByteArray) (a1_12 r : Int) (w : World) (h : spec_siBroken.f k a0_0 a0_1 a0_2 a0_3 a0_4 a0_5 a0_6 a0_7 a0_8 a0_9 a0_10 a0_11 a0_12 a1_0 a1_1 a1_2 a1_3 a1_4 a1_5 a1_6 a1_7 a1_8 a1_9 a1_10 a1_11 a1_12 = some r) :
  Calls Tryz.prog 46 #[.agg #[.int .i64 a0_0, .int .i64 a0_1, .int .i64 a0_2, .int .i64 a0_3, .int .i64 a0_4, .bool a0_5, .int .i64 a0_6, .int .i64 a0_7, .int .i64 a0_8, .int .i64 a0_9, .bool a0_10, .string a0_11, .int .i64 a0_12], .agg #[.int .i64 a1_0, .int .i64 a1_1, .int .i64 a1_2, .int .i64 a1_3, .int .i64 a1_4, .bool a1_5, .int .i64 a1_6, .int .i64 a1_7, .int .i64 a1_8, .int .i64 a1_9, .bool a1_10, .string a1_11, .int .i64 a1_12]] w fun e w' => e = .returned (.int .i64 r) ∧ Below w.heap.size w w' := by
 have hu42 := Tryz.underlying42
 have hu37 := Tryz.underlying37
 have hu38 := Tryz.underlying38
 have hu40 := Tryz.underlying40
 have HB := am_ (Below.refl w.heap.size w)
 have H : (if a1_11.toList = ([] : List UInt8) then (if (a0_0 == a1_0 && (a0_1 == a1_1 && (a0_2 == a1_2 && (a0_3 == a1_3 && (a0_4 == a1_4 && (a0_5 == a1_5)))))) = true then (some 0) else ((spec_siPlain.f k).bind fun t184 => (spec_siBroken.l0 k t184 (t184.length : Int) 0 a1_0 a1_1 a1_2 a1_3 a1_4 a1_5 a1_6 a1_7 a1_8 a1_9 a1_10 a1_11 a1_12))) else (if a0_11.toList = ([] : List UInt8) then (some 3) else (if (!(a0_0 == a1_0) || (!(a0_1 == a1_1) || (!(a0_2 == a1_2) || (!(a0_3 == a1_3) || (!(a0_4 == a1_4) || (!(a0_5 == a1_5))))))) = true then (some 1) else (if (!(a0_6 == a1_6) || (!(a0_7 == a1_7))) = true then ((spec_orMirror.f a1_6 a1_7).bind fun bt189 => (spec_siBroken.j1 k (!(a0_6 == bt189.1) || (!(a0_7 == bt189.2))) a0_0 a0_1 a0_2 a0_3 a0_4 a0_5 a0_6 a0_7 a0_8 a0_9 a0_10 a0_11 a0_12 a1_0 a1_1 a1_2 a1_3 a1_4 a1_5 a1_6 a1_7 a1_8 a1_9 a1_10 a1_11 a1_12)) else (spec_siBroken.j1 k false a0_0 a0_1 a0_2 a0_3 a0_4 a0_5 a0_6 a0_7 a0_8 a0_9 a0_10 a0_11 a0_12 a1_0 a1_1 a1_2 a1_3 a1_4 a1_5 a1_6 a1_7 a1_8 a1_9 a1_10 a1_11 a1_12))))) = some r := h
 clear h
 by_cases c3 : a1_11.toList = ([] : List UInt8)
 ·rw [if_pos c3] at H
  have c3b0 : (a1_11.toList == ([] : List UInt8)) = true := beq_iff_eq.mpr c3
  have c3b1 : (a1_11.toList != ([] : List UInt8)) = false := bne_eq_false_iff_eq.mpr c3
  clear c3
  by_cases c4 : (a0_0 == a1_0 && (a0_1 == a1_1 && (a0_2 == a1_2 && (a0_3 == a1_3 && (a0_4 == a1_4 && (a0_5 == a1_5)))))) = true
  ·rw [if_pos c4] at H
   have c4b0 : (a0_0 == a1_0 && (a0_1 == a1_1 && (a0_2 == a1_2 && (a0_3 == a1_3 && (a0_4 == a1_4 && (a0_5 == a1_5)))))) = true := c4
   (try (have c4b1 : decide (a0_0 = a1_0 && (a0_1 == a1_1 && (a0_2 == a1_2 && (a0_3 == a1_3 && (a0_4 == a1_4 && (a0_5 == a1_5)))))) = true := by simpa using c4))
   (try (have c4b2 : (a0_0 == a1_0 && (a0_1 == a1_1 && (a0_2 == a1_2 && (a0_3 == a1_3 && (a0_4 == a1_4 && (a0_5 == a1_5)))))) = true := by simpa using c4))
   clear c4
   obtain rfl := Option.some.inj H
   go_enter Tryz.func46, Tryz.ntmps46
   go_wp2_with (first | ((with_reducible refine gate_dst (N := 2) rfl ?_); refine bx_ (cs := #[.int .i64 a0_0, .int .i64 a0_1, .int .i64 a0_2, .int .i64 a0_3, .int .i64 a0_4, .bool a0_5, .int .i64 a0_6, .int .i64 a0_7, .int .i64 a0_8, .int .i64 a0_9, .bool a0_10, .string a0_11, .int .i64 a0_12]) (t := 42) ?_; intro gb182 hg w5 hbox hb; have BK182 := am_ (hbox); have GW182 := gz_ hg HB; have GE182 := gz_ hg HB; replace HB := am_ (bt_ HB hb); clear hb hbox hg) | ((with_reducible refine gate_dst (N := 3) rfl ?_); refine bx_ (cs := #[.int .i64 a1_0, .int .i64 a1_1, .int .i64 a1_2, .int .i64 a1_3, .int .i64 a1_4, .bool a1_5, .int .i64 a1_6, .int .i64 a1_7, .int .i64 a1_8, .int .i64 a1_9, .bool a1_10, .string a1_11, .int .i64 a1_12]) (t := 42) ?_; intro gb183 hg w6 hbox hb; have BK183 := am_ (hbox); have GW183 := gy_ hg (bb1_ HB GE182); have GE183 := gy_ hg (bb1_ HB GE182); replace HB := am_ (below_step (bb1_ HB GE182) hb); have NB182_183 := nl_ hg BK182; have NB183_182 := ng_ hg BK182; replace BK182 := am_ (lb_ BK182 hb); clear hb hbox hg; have hnb7 := NB183_182.out; have hnc7 := NB182_183.out; have hcz8_0 := cz0_ BK183; have hcz8_1 := cz1_ BK183; have hcz8_2 := cz2_ BK183; have hcz8_3 := cz3_ BK183; have hcz8_4 := cz4_ BK183; have hcz8_5 := cz5_ BK183; have hcz8_6 := cz6_ BK183; have hcz8_7 := cz7_ BK183; have hcz8_8 := cz8_ BK183; have hcz8_9 := cz9_ BK183; have hcz8_10 := cz10_ BK183; have hcz8_11 := cz11_ BK183; have hcz8_12 := cz12_ BK183; have hcz9_0 := cz0_ BK182; have hcz9_1 := cz1_ BK182; have hcz9_2 := cz2_ BK182; have hcz9_3 := cz3_ BK182; have hcz9_4 := cz4_ BK182; have hcz9_5 := cz5_ BK182; have hcz9_6 := cz6_ BK182; have hcz9_7 := cz7_ BK182; have hcz9_8 := cz8_ BK182; have hcz9_9 := cz9_ BK182; have hcz9_10 := cz10_ BK182; have hcz9_11 := cz11_ BK182; have hcz9_12 := cz12_ BK182))
   go_ret
   exact ⟨ew_, bb2_ HB GE182 GE183⟩
  ·rw [if_neg c4] at H
   have c4b0 : (a0_0 == a1_0 && (a0_1 == a1_1 && (a0_2 == a1_2 && (a0_3 == a1_3 && (a0_4 == a1_4 && (a0_5 == a1_5)))))) = false := by simpa using c4
   (try (have c4b1 : decide (a0_0 = a1_0 && (a0_1 == a1_1 && (a0_2 == a1_2 && (a0_3 == a1_3 && (a0_4 == a1_4 && (a0_5 == a1_5)))))) = false := by simpa using c4))
   (try (have c4b2 : (a0_0 == a1_0 && (a0_1 == a1_1 && (a0_2 == a1_2 && (a0_3 == a1_3 && (a0_4 == a1_4 && (a0_5 == a1_5)))))) = false := by simpa using c4))
   (try (have c4b3 : ¬ (a0_0 = a1_0 && (a0_1 == a1_1 && (a0_2 == a1_2 && (a0_3 == a1_3 && (a0_4 == a1_4 && (a0_5 == a1_5)))))) := by simpa using c4))
   clear c4
   replace H := Option.bind_eq_some_iff.mp H
   obtain ⟨t184, A100, H⟩ := H
   try dsimp only at H
   have A10 := Aside0.mk A100
   clear A100
   have H' := Aside0.mk H
   clear H
   go_enter Tryz.func46, Tryz.ntmps46
   go_wp2_with (first | ((with_reducible refine gate_dst (N := 2) rfl ?_); refine bx_ (cs := #[.int .i64 a0_0, .int .i64 a0_1, .int .i64 a0_2, .int .i64 a0_3, .int .i64 a0_4, .bool a0_5, .int .i64 a0_6, .int .i64 a0_7, .int .i64 a0_8, .int .i64 a0_9, .bool a0_10, .string a0_11, .int .i64 a0_12]) (t := 42) ?_; intro gb182 hg w11 hbox hb; have BK182 := am_ (hbox); have GW182 := gz_ hg HB; have GE182 := gz_ hg HB; replace HB := am_ (bt_ HB hb); clear hb hbox hg) | ((with_reducible refine gate_dst (N := 3) rfl ?_); refine bx_ (cs := #[.int .i64 a1_0, .int .i64 a1_1, .int .i64 a1_2, .int .i64 a1_3, .int .i64 a1_4, .bool a1_5, .int .i64 a1_6, .int .i64 a1_7, .int .i64 a1_8, .int .i64 a1_9, .bool a1_10, .string a1_11, .int .i64 a1_12]) (t := 42) ?_; intro gb183 hg w12 hbox hb; have BK183 := am_ (hbox); have GW183 := gy_ hg (bb1_ HB GE182); have GE183 := gy_ hg (bb1_ HB GE182); replace HB := am_ (below_step (bb1_ HB GE182) hb); have NB182_183 := nl_ hg BK182; have NB183_182 := ng_ hg BK182; replace BK182 := am_ (lb_ BK182 hb); clear hb hbox hg; have hnb13 := NB183_182.out; have hnc13 := NB182_183.out; have hcz14_0 := cz0_ BK183; have hcz14_1 := cz1_ BK183; have hcz14_2 := cz2_ BK183; have hcz14_3 := cz3_ BK183; have hcz14_4 := cz4_ BK183; have hcz14_5 := cz5_ BK183; have hcz14_6 := cz6_ BK183; have hcz14_7 := cz7_ BK183; have hcz14_8 := cz8_ BK183; have hcz14_9 := cz9_ BK183; have hcz14_10 := cz10_ BK183; have hcz14_11 := cz11_ BK183; have hcz14_12 := cz12_ BK183; have hcz15_0 := cz0_ BK182; have hcz15_1 := cz1_ BK182; have hcz15_2 := cz2_ BK182; have hcz15_3 := cz3_ BK182; have hcz15_4 := cz4_ BK182; have hcz15_5 := cz5_ BK182; have hcz15_6 := cz6_ BK182; have hcz15_7 := cz7_ BK182; have hcz15_8 := cz8_ BK182; have hcz15_9 := cz9_ BK182; have hcz15_10 := cz10_ BK182; have hcz15_11 := cz11_ BK182; have hcz15_12 := cz12_ BK182) | ((with_reducible refine gate_callee (f := 82) rfl ?_); refine goesL_ (some 16) rfl rfl Tryz.func82 (by kernel_rfl) rfl #[] rfl args_ ?_; (with_reducible refine (spec_siPlain.calls k  t184 _ A10.out).mono ?_); rintro e w16 ⟨v185, rfl, ho0, hb⟩; refine ⟨_, rfl, ?_⟩; have HO186 := am_ (Kd.R_lower ho0 (below_size (bb2_ HB GE182 GE183))); replace BK182 := am_ (lb_ BK182 hb); replace BK183 := am_ (lb_ BK183 hb); replace HB := am_ (below_step (bb2_ HB GE182 GE183) hb); (try clear hb); (try clear hb2); (try clear hk); (try clear hi); (try clear ho0); obtain ⟨Ao17, co17, eo17⟩ := Kd.R_slice HO186.out; subst eo17))
   go_loopg [18] k (fun kq v18 w' => ∃ (x18_1 : Int), v18 = .int .i64 x18_1 ∧ Aside0 (spec_siBroken.l0 kq t184 (t184.length : Int) x18_1 a1_0 a1_1 a1_2 a1_3 a1_4 a1_5 a1_6 a1_7 a1_8 a1_9 a1_10 a1_11 a1_12 = some r) ∧ Aside0 (kq ≤ k) ∧ Aside0 (Kd.R k37 37 w' w.heap.size (fun _ => True) (.slice Ao17 t184.length co17) t184) ∧ Aside0 (w'.heap[gb182]? = some (.cells #[.int .i64 a0_0, .int .i64 a0_1, .int .i64 a0_2, .int .i64 a0_3, .int .i64 a0_4, .bool a0_5, .int .i64 a0_6, .int .i64 a0_7, .int .i64 a0_8, .int .i64 a0_9, .bool a0_10, .string a0_11, .int .i64 a0_12] 42 (0, 0))) ∧ Aside0 (w'.heap[gb183]? = some (.cells #[.int .i64 a1_0, .int .i64 a1_1, .int .i64 a1_2, .int .i64 a1_3, .int .i64 a1_4, .bool a1_5, .int .i64 a1_6, .int .i64 a1_7, .int .i64 a1_8, .int .i64 a1_9, .bool a1_10, .string a1_11, .int .i64 a1_12] 42 (0, 0))) ∧ Aside0 (Below w.heap.size w w'))
   case atStart => exact ⟨(0), (by first | rfl | (simp; done) | (simp [*]; done)), H', ⟨Nat.le_refl _⟩, ⟨by (with_reducible repeat (first | apply rA_ | apply rN_ | apply rD_)); exact HO186.out⟩, ⟨by (with_reducible repeat (first | apply lN_ | apply lD_ | apply lA_)); exact BK182.out⟩, ⟨by (with_reducible repeat (first | apply lN_ | apply lD_ | apply lA_)); exact BK183.out⟩, ⟨bb2_ HB GE182 GE183⟩⟩
   case round =>
    clear H'
    try clear c1
    try clear p2
    try clear c3
    try clear c3b0
    try clear c3b1
    try clear c4
    try clear c4b0
    try clear c4b1
    try clear c4b2
    try clear c7
    try clear c8
    try clear c13
    try clear hcz14_0
    try clear hcz14_1
    try clear hcz14_10
    try clear hcz14_11
    try clear hcz14_12
    try clear hcz14_2
    try clear hcz14_3
    try clear hcz14_4
    try clear hcz14_5
    try clear hcz14_6
    try clear hcz14_7
    try clear hcz14_8
    try clear hcz14_9
    try clear hcz15_0
    try clear hcz15_1
    try clear hcz15_10
    try clear hcz15_11
    try clear hcz15_12
    try clear hcz15_2
    try clear hcz15_3
    try clear hcz15_4
    try clear hcz15_5
    try clear hcz15_6
    try clear hcz15_7
    try clear hcz15_8
    try clear hcz15_9
    try clear hcz8_0
    try clear hcz8_1
    try clear hcz8_10
    try clear hcz8_11
    try clear hcz8_12
    try clear hcz8_2
    try clear hcz8_3
    try clear hcz8_4
    try clear hcz8_5
    try clear hcz8_6
    try clear hcz8_7
    try clear hcz8_8
    try clear hcz8_9
    try clear hcz9_0
    try clear hcz9_1
    try clear hcz9_10
    try clear hcz9_11
    try clear hcz9_12
    try clear hcz9_2
    try clear hcz9_3
    try clear hcz9_4
    try clear hcz9_5
    try clear hcz9_6
    try clear hcz9_7
    try clear hcz9_8
    try clear hcz9_9
    obtain ⟨x18_1, rfl, HA, HK1, HO_16, BK182, BK183, HB⟩ := hrel
    cases gk with
    | zero => exact absurd HA.out (by simp [spec_siBroken.l0])
    | succ k1 =>
     have H := HA.out
     clear HA
     simp only [spec_siBroken.l0] at H
     by_cases c18 : x18_1 < (t184.length : Int)
     ·rw [if_pos c18] at H
      have c18b0 : decide (x18_1 < (t184.length : Int)) = true := decide_eq_true c18
      clear c18
      by_cases c19 : 0 ≤ x18_1
      ·rw [if_pos c19] at H
       have c19b0 : decide (0 ≤ x18_1) = true := decide_eq_true c19
       clear c19
       by_cases c20 : x18_1 < (t184.length : Int)
       ·rw [if_pos c20] at H
        have c20b0 : decide (x18_1 < (t184.length : Int)) = true := decide_eq_true c20
        clear c20
        by_cases c21 : (((rd_T37 t184 x18_1).f0) == a1_0 && (((rd_T37 t184 x18_1).f1) == a1_1 && (((rd_T37 t184 x18_1).f2) == a1_2 && (((rd_T37 t184 x18_1).f3) == a1_3 && (((rd_T37 t184 x18_1).f4) == a1_4 && (((rd_T37 t184 x18_1).f5) == a1_5)))))) = true
        ·rw [if_pos c21] at H
         have c21b0 : (((rd_T37 t184 x18_1).f0) == a1_0 && (((rd_T37 t184 x18_1).f1) == a1_1 && (((rd_T37 t184 x18_1).f2) == a1_2 && (((rd_T37 t184 x18_1).f3) == a1_3 && (((rd_T37 t184 x18_1).f4) == a1_4 && (((rd_T37 t184 x18_1).f5) == a1_5)))))) = true := c21
         (try (have c21b1 : decide (((rd_T37 t184 x18_1).f0) = a1_0 && (((rd_T37 t184 x18_1).f1) == a1_1 && (((rd_T37 t184 x18_1).f2) == a1_2 && (((rd_T37 t184 x18_1).f3) == a1_3 && (((rd_T37 t184 x18_1).f4) == a1_4 && (((rd_T37 t184 x18_1).f5) == a1_5)))))) = true := by simpa using c21))
         (try (have c21b2 : (((rd_T37 t184 x18_1).f0) == a1_0 && (((rd_T37 t184 x18_1).f1) == a1_1 && (((rd_T37 t184 x18_1).f2) == a1_2 && (((rd_T37 t184 x18_1).f3) == a1_3 && (((rd_T37 t184 x18_1).f4) == a1_4 && (((rd_T37 t184 x18_1).f5) == a1_5)))))) = true := by simpa using c21))
         clear c21
         obtain rfl := Option.some.inj H
         have p187 : 0 ≤ (x18_1 : Int) := of_decide_eq_true as_
         have q187 : x18_1 < (t184.length : Int) := of_decide_eq_true as_
         obtain ⟨ad187, e187, hx187_0, hx187_1, hx187_2, hx187_3, hx187_4, hx187_5⟩ := at_T37 (Kd.R_reads' HO_16.out).2.2 x18_1 p187 q187
         cases e187
         replace p187 := eq_true p187
         replace q187 := eq_true q187
         go_wp2_with (first | ((with_reducible refine gate_dst (N := 6) rfl ?_); refine bx_ (cs := #[.int .i64 0, .int .i64 0, .int .i64 0, .int .i64 0, .int .i64 0, .bool false]) (t := 37) ?_; intro gb188 hg w22 hbox hb; replace HO_16 := am_ (Kd.R_below (Kd.R_elderB (ra_ HO_16) gb188 (Nat.le_of_eq hg.symm)) hb); have BK188 := am_ (hbox); have GW188 := gy_ hg (bb2_ HB GE182 GE183); have GE188 := gy_ hg (bb2_ HB GE182 GE183); replace HB := am_ (below_step (bb2_ HB GE182 GE183) hb); have NB182_188 := nl_ hg BK182; have NB188_182 := ng_ hg BK182; replace BK182 := am_ (lb_ BK182 hb); have NB183_188 := nl_ hg BK183; have NB188_183 := ng_ hg BK183; replace BK183 := am_ (lb_ BK183 hb); clear hb hbox hg; have hnb23 := NB188_182.out; have hnc23 := NB182_188.out; have hnb24 := NB188_183.out; have hnc24 := NB183_188.out; have hcz25_0 := cz0_ BK188; have hcz25_1 := cz1_ BK188; have hcz25_2 := cz2_ BK188; have hcz25_3 := cz3_ BK188; have hcz25_4 := cz4_ BK188; have hcz25_5 := cz5_ BK188; have hfz25_0 := fz_ BK188 0; have hfz25_1 := fz_ BK188 1; have hfz25_2 := fz_ BK188 2; have hfz25_3 := fz_ BK188 3; have hfz25_4 := fz_ BK188 4; have hfz25_5 := fz_ BK188 5; have hnb26 := NB183_182.out; have hnc26 := NB182_183.out; have hcz27_0 := cz0_ BK183; have hcz27_1 := cz1_ BK183; have hcz27_2 := cz2_ BK183; have hcz27_3 := cz3_ BK183; have hcz27_4 := cz4_ BK183; have hcz27_5 := cz5_ BK183; have hcz27_6 := cz6_ BK183; have hcz27_7 := cz7_ BK183; have hcz27_8 := cz8_ BK183; have hcz27_9 := cz9_ BK183; have hcz27_10 := cz10_ BK183; have hcz27_11 := cz11_ BK183; have hcz27_12 := cz12_ BK183))
         go_ret
         exact ⟨ew_, bb3_ HB GE182 GE183 GE188⟩
        ·rw [if_neg c21] at H
         have c21b0 : (((rd_T37 t184 x18_1).f0) == a1_0 && (((rd_T37 t184 x18_1).f1) == a1_1 && (((rd_T37 t184 x18_1).f2) == a1_2 && (((rd_T37 t184 x18_1).f3) == a1_3 && (((rd_T37 t184 x18_1).f4) == a1_4 && (((rd_T37 t184 x18_1).f5) == a1_5)))))) = false := by simpa using c21
         (try (have c21b1 : decide (((rd_T37 t184 x18_1).f0) = a1_0 && (((rd_T37 t184 x18_1).f1) == a1_1 && (((rd_T37 t184 x18_1).f2) == a1_2 && (((rd_T37 t184 x18_1).f3) == a1_3 && (((rd_T37 t184 x18_1).f4) == a1_4 && (((rd_T37 t184 x18_1).f5) == a1_5)))))) = false := by simpa using c21))
         (try (have c21b2 : (((rd_T37 t184 x18_1).f0) == a1_0 && (((rd_T37 t184 x18_1).f1) == a1_1 && (((rd_T37 t184 x18_1).f2) == a1_2 && (((rd_T37 t184 x18_1).f3) == a1_3 && (((rd_T37 t184 x18_1).f4) == a1_4 && (((rd_T37 t184 x18_1).f5) == a1_5)))))) = false := by simpa using c21))
         (try (have c21b3 : ¬ (((rd_T37 t184 x18_1).f0) = a1_0 && (((rd_T37 t184 x18_1).f1) == a1_1 && (((rd_T37 t184 x18_1).f2) == a1_2 && (((rd_T37 t184 x18_1).f3) == a1_3 && (((rd_T37 t184 x18_1).f4) == a1_4 && (((rd_T37 t184 x18_1).f5) == a1_5)))))) := by simpa using c21))
         clear c21
         have H' := Aside0.mk H
         clear H
         have p187 : 0 ≤ (x18_1 : Int) := of_decide_eq_true as_
         have q187 : x18_1 < (t184.length : Int) := of_decide_eq_true as_
         obtain ⟨ad187, e187, hx187_0, hx187_1, hx187_2, hx187_3, hx187_4, hx187_5⟩ := at_T37 (Kd.R_reads' HO_16.out).2.2 x18_1 p187 q187
         cases e187
         replace p187 := eq_true p187
         replace q187 := eq_true q187
         go_wp2_with (first | ((with_reducible refine gate_dst (N := 6) rfl ?_); refine bx_ (cs := #[.int .i64 0, .int .i64 0, .int .i64 0, .int .i64 0, .int .i64 0, .bool false]) (t := 37) ?_; intro gb188 hg w28 hbox hb; replace HO_16 := am_ (Kd.R_below (Kd.R_elderB (ra_ HO_16) gb188 (Nat.le_of_eq hg.symm)) hb); have BK188 := am_ (hbox); have GW188 := gy_ hg (bb2_ HB GE182 GE183); have GE188 := gy_ hg (bb2_ HB GE182 GE183); replace HB := am_ (below_step (bb2_ HB GE182 GE183) hb); have NB182_188 := nl_ hg BK182; have NB188_182 := ng_ hg BK182; replace BK182 := am_ (lb_ BK182 hb); have NB183_188 := nl_ hg BK183; have NB188_183 := ng_ hg BK183; replace BK183 := am_ (lb_ BK183 hb); clear hb hbox hg; have hnb29 := NB188_182.out; have hnc29 := NB182_188.out; have hnb30 := NB188_183.out; have hnc30 := NB183_188.out; have hcz31_0 := cz0_ BK188; have hcz31_1 := cz1_ BK188; have hcz31_2 := cz2_ BK188; have hcz31_3 := cz3_ BK188; have hcz31_4 := cz4_ BK188; have hcz31_5 := cz5_ BK188; have hfz31_0 := fz_ BK188 0; have hfz31_1 := fz_ BK188 1; have hfz31_2 := fz_ BK188 2; have hfz31_3 := fz_ BK188 3; have hfz31_4 := fz_ BK188 4; have hfz31_5 := fz_ BK188 5; have hnb32 := NB183_182.out; have hnc32 := NB182_183.out; have hcz33_0 := cz0_ BK183; have hcz33_1 := cz1_ BK183; have hcz33_2 := cz2_ BK183; have hcz33_3 := cz3_ BK183; have hcz33_4 := cz4_ BK183; have hcz33_5 := cz5_ BK183; have hcz33_6 := cz6_ BK183; have hcz33_7 := cz7_ BK183; have hcz33_8 := cz8_ BK183; have hcz33_9 := cz9_ BK183; have hcz33_10 := cz10_ BK183; have hcz33_11 := cz11_ BK183; have hcz33_12 := cz12_ BK183))
         go_roundg k1
         case measure => have := HK1.out; omega
         case rel => exact ⟨(wrap64 (x18_1 + 1)), (by first | rfl | (simp; done) | (simp [*]; done)), H', ⟨by have := HK1.out; omega⟩, ⟨by (with_reducible repeat (first | apply rA_ | apply rN_ | apply rD_)); exact Kd.R_mono (Kd.R_far (p := ⟨gb188, 5, none⟩) (Kd.R_far (p := ⟨gb188, 4, none⟩) (Kd.R_far (p := ⟨gb188, 3, none⟩) (Kd.R_far (p := ⟨gb188, 2, none⟩) (Kd.R_far (p := ⟨gb188, 1, none⟩) (Kd.R_far (p := ⟨gb188, 0, none⟩) (Kd.R_mono HO_16.out (fun k_ hk => (⟨hk, hk.2⟩ : _ ∧ k_ ≠ gb188))) (fun _ hk => hk.2) (.int .i64 ((rd_T37 t184 x18_1).f0))) (fun _ hk => hk.2) (.int .i64 ((rd_T37 t184 x18_1).f1))) (fun _ hk => hk.2) (.int .i64 ((rd_T37 t184 x18_1).f2))) (fun _ hk => hk.2) (.int .i64 ((rd_T37 t184 x18_1).f3))) (fun _ hk => hk.2) (.int .i64 ((rd_T37 t184 x18_1).f4))) (fun _ hk => hk.2) (.bool ((rd_T37 t184 x18_1).f5))) (fun _ hk => trivial)⟩, ⟨by (with_reducible repeat (first | apply lN_ | apply lD_ | apply lA_)); refine blk_far ?_ NB182_188.out _; (with_reducible repeat (first | apply lN_ | apply lD_ | apply lA_)); refine blk_far ?_ NB182_188.out _; (with_reducible repeat (first | apply lN_ | apply lD_ | apply lA_)); refine blk_far ?_ NB182_188.out _; (with_reducible repeat (first | apply lN_ | apply lD_ | apply lA_)); refine blk_far ?_ NB182_188.out _; (with_reducible repeat (first | apply lN_ | apply lD_ | apply lA_)); refine blk_far ?_ NB182_188.out _; (with_reducible repeat (first | apply lN_ | apply lD_ | apply lA_)); refine blk_far ?_ NB182_188.out _; (with_reducible repeat (first | apply lN_ | apply lD_ | apply lA_)); exact BK182.out⟩, ⟨by (with_reducible repeat (first | apply lN_ | apply lD_ | apply lA_)); refine blk_far ?_ NB183_188.out _; (with_reducible repeat (first | apply lN_ | apply lD_ | apply lA_)); refine blk_far ?_ NB183_188.out _; (with_reducible repeat (first | apply lN_ | apply lD_ | apply lA_)); refine blk_far ?_ NB183_188.out _; (with_reducible repeat (first | apply lN_ | apply lD_ | apply lA_)); refine blk_far ?_ NB183_188.out _; (with_reducible repeat (first | apply lN_ | apply lD_ | apply lA_)); refine blk_far ?_ NB183_188.out _; (with_reducible repeat (first | apply lN_ | apply lD_ | apply lA_)); refine blk_far ?_ NB183_188.out _; (with_reducible repeat (first | apply lN_ | apply lD_ | apply lA_)); exact BK183.out⟩, ⟨bb3_ HB GE182 GE183 GE188⟩⟩
       ·rw [if_neg c20] at H
        exact absurd H (by simp)
      ·rw [if_neg c19] at H
       exact absurd H (by simp)
     ·rw [if_neg c18] at H
      have c18b0 : decide (x18_1 < (t184.length : Int)) = false := decide_eq_false c18
      clear c18
      obtain rfl := Option.some.inj H
      go_wp2
      go_ret
      exact ⟨ew_, bb2_ HB GE182 GE183⟩
 ·rw [if_neg c3] at H
  have c3b0 : (a1_11.toList == ([] : List UInt8)) = false := beq_eq_false_iff_ne.mpr c3
  have c3b1 : (a1_11.toList != ([] : List UInt8)) = true := bne_iff_ne.mpr c3
  by_cases c34 : a0_11.toList = ([] : List UInt8)
  ·rw [if_pos c34] at H
   have c34b0 : (a0_11.toList == ([] : List UInt8)) = true := beq_iff_eq.mpr c34
   have c34b1 : (a0_11.toList != ([] : List UInt8)) = false := bne_eq_false_iff_eq.mpr c34
   clear c34
   obtain rfl := Option.some.inj H
   go_enter Tryz.func46, Tryz.ntmps46
   go_wp2_with (first | ((with_reducible refine gate_dst (N := 2) rfl ?_); refine bx_ (cs := #[.int .i64 a0_0, .int .i64 a0_1, .int .i64 a0_2, .int .i64 a0_3, .int .i64 a0_4, .bool a0_5, .int .i64 a0_6, .int .i64 a0_7, .int .i64 a0_8, .int .i64 a0_9, .bool a0_10, .string a0_11, .int .i64 a0_12]) (t := 42) ?_; intro gb182 hg w35 hbox hb; have BK182 := am_ (hbox); have GW182 := gz_ hg HB; have GE182 := gz_ hg HB; replace HB := am_ (bt_ HB hb); clear hb hbox hg) | ((with_reducible refine gate_dst (N := 3) rfl ?_); refine bx_ (cs := #[.int .i64 a1_0, .int .i64 a1_1, .int .i64 a1_2, .int .i64 a1_3, .int .i64 a1_4, .bool a1_5, .int .i64 a1_6, .int .i64 a1_7, .int .i64 a1_8, .int .i64 a1_9, .bool a1_10, .string a1_11, .int .i64 a1_12]) (t := 42) ?_; intro gb183 hg w36 hbox hb; have BK183 := am_ (hbox); have GW183 := gy_ hg (bb1_ HB GE182); have GE183 := gy_ hg (bb1_ HB GE182); replace HB := am_ (below_step (bb1_ HB GE182) hb); have NB182_183 := nl_ hg BK182; have NB183_182 := ng_ hg BK182; replace BK182 := am_ (lb_ BK182 hb); clear hb hbox hg; have hnb37 := NB183_182.out; have hnc37 := NB182_183.out; have hcz38_0 := cz0_ BK183; have hcz38_1 := cz1_ BK183; have hcz38_2 := cz2_ BK183; have hcz38_3 := cz3_ BK183; have hcz38_4 := cz4_ BK183; have hcz38_5 := cz5_ BK183; have hcz38_6 := cz6_ BK183; have hcz38_7 := cz7_ BK183; have hcz38_8 := cz8_ BK183; have hcz38_9 := cz9_ BK183; have hcz38_10 := cz10_ BK183; have hcz38_11 := cz11_ BK183; have hcz38_12 := cz12_ BK183; have hcz39_0 := cz0_ BK182; have hcz39_1 := cz1_ BK182; have hcz39_2 := cz2_ BK182; have hcz39_3 := cz3_ BK182; have hcz39_4 := cz4_ BK182; have hcz39_5 := cz5_ BK182; have hcz39_6 := cz6_ BK182; have hcz39_7 := cz7_ BK182; have hcz39_8 := cz8_ BK182; have hcz39_9 := cz9_ BK182; have hcz39_10 := cz10_ BK182; have hcz39_11 := cz11_ BK182; have hcz39_12 := cz12_ BK182))
   go_ret
   exact ⟨ew_, bb2_ HB GE182 GE183⟩
  ·rw [if_neg c34] at H
   have c34b0 : (a0_11.toList == ([] : List UInt8)) = false := beq_eq_false_iff_ne.mpr c34
   have c34b1 : (a0_11.toList != ([] : List UInt8)) = true := bne_iff_ne.mpr c34
   by_cases c40 : (!(a0_0 == a1_0) || (!(a0_1 == a1_1) || (!(a0_2 == a1_2) || (!(a0_3 == a1_3) || (!(a0_4 == a1_4) || (!(a0_5 == a1_5))))))) = true
   ·rw [if_pos c40] at H
    have c40b0 : (!(a0_0 == a1_0) || (!(a0_1 == a1_1) || (!(a0_2 == a1_2) || (!(a0_3 == a1_3) || (!(a0_4 == a1_4) || (!(a0_5 == a1_5))))))) = true := c40
    clear c40
    obtain rfl := Option.some.inj H
    go_enter Tryz.func46, Tryz.ntmps46
    go_wp2_with (first | ((with_reducible refine gate_dst (N := 2) rfl ?_); refine bx_ (cs := #[.int .i64 a0_0, .int .i64 a0_1, .int .i64 a0_2, .int .i64 a0_3, .int .i64 a0_4, .bool a0_5, .int .i64 a0_6, .int .i64 a0_7, .int .i64 a0_8, .int .i64 a0_9, .bool a0_10, .string a0_11, .int .i64 a0_12]) (t := 42) ?_; intro gb182 hg w41 hbox hb; have BK182 := am_ (hbox); have GW182 := gz_ hg HB; have GE182 := gz_ hg HB; replace HB := am_ (bt_ HB hb); clear hb hbox hg) | ((with_reducible refine gate_dst (N := 3) rfl ?_); refine bx_ (cs := #[.int .i64 a1_0, .int .i64 a1_1, .int .i64 a1_2, .int .i64 a1_3, .int .i64 a1_4, .bool a1_5, .int .i64 a1_6, .int .i64 a1_7, .int .i64 a1_8, .int .i64 a1_9, .bool a1_10, .string a1_11, .int .i64 a1_12]) (t := 42) ?_; intro gb183 hg w42 hbox hb; have BK183 := am_ (hbox); have GW183 := gy_ hg (bb1_ HB GE182); have GE183 := gy_ hg (bb1_ HB GE182); replace HB := am_ (below_step (bb1_ HB GE182) hb); have NB182_183 := nl_ hg BK182; have NB183_182 := ng_ hg BK182; replace BK182 := am_ (lb_ BK182 hb); clear hb hbox hg; have hnb43 := NB183_182.out; have hnc43 := NB182_183.out; have hcz44_0 := cz0_ BK183; have hcz44_1 := cz1_ BK183; have hcz44_2 := cz2_ BK183; have hcz44_3 := cz3_ BK183; have hcz44_4 := cz4_ BK183; have hcz44_5 := cz5_ BK183; have hcz44_6 := cz6_ BK183; have hcz44_7 := cz7_ BK183; have hcz44_8 := cz8_ BK183; have hcz44_9 := cz9_ BK183; have hcz44_10 := cz10_ BK183; have hcz44_11 := cz11_ BK183; have hcz44_12 := cz12_ BK183; have hcz45_0 := cz0_ BK182; have hcz45_1 := cz1_ BK182; have hcz45_2 := cz2_ BK182; have hcz45_3 := cz3_ BK182; have hcz45_4 := cz4_ BK182; have hcz45_5 := cz5_ BK182; have hcz45_6 := cz6_ BK182; have hcz45_7 := cz7_ BK182; have hcz45_8 := cz8_ BK182; have hcz45_9 := cz9_ BK182; have hcz45_10 := cz10_ BK182; have hcz45_11 := cz11_ BK182; have hcz45_12 := cz12_ BK182))
    go_ret
    exact ⟨ew_, bb2_ HB GE182 GE183⟩
   ·rw [if_neg c40] at H
    have c40b0 : (!(a0_0 == a1_0) || (!(a0_1 == a1_1) || (!(a0_2 == a1_2) || (!(a0_3 == a1_3) || (!(a0_4 == a1_4) || (!(a0_5 == a1_5))))))) = false := by simpa using c40
    clear c40
    have HC46 := Aside0.mk H
    clear H
    go_enter Tryz.func46, Tryz.ntmps46
    go_upto_region 15 with (first | ((with_reducible refine gate_dst (N := 2) rfl ?_); refine bx_ (cs := #[.int .i64 a0_0, .int .i64 a0_1, .int .i64 a0_2, .int .i64 a0_3, .int .i64 a0_4, .bool a0_5, .int .i64 a0_6, .int .i64 a0_7, .int .i64 a0_8, .int .i64 a0_9, .bool a0_10, .string a0_11, .int .i64 a0_12]) (t := 42) ?_; intro gb182 hg w47 hbox hb; have BK182 := am_ (hbox); have GW182 := gz_ hg HB; have GE182 := gz_ hg HB; replace HB := am_ (bt_ HB hb); clear hb hbox hg) | ((with_reducible refine gate_dst (N := 3) rfl ?_); refine bx_ (cs := #[.int .i64 a1_0, .int .i64 a1_1, .int .i64 a1_2, .int .i64 a1_3, .int .i64 a1_4, .bool a1_5, .int .i64 a1_6, .int .i64 a1_7, .int .i64 a1_8, .int .i64 a1_9, .bool a1_10, .string a1_11, .int .i64 a1_12]) (t := 42) ?_; intro gb183 hg w48 hbox hb; have BK183 := am_ (hbox); have GW183 := gy_ hg (bb1_ HB GE182); have GE183 := gy_ hg (bb1_ HB GE182); replace HB := am_ (below_step (bb1_ HB GE182) hb); have NB182_183 := nl_ hg BK182; have NB183_182 := ng_ hg BK182; replace BK182 := am_ (lb_ BK182 hb); clear hb hbox hg; have hnb49 := NB183_182.out; have hnc49 := NB182_183.out; have hcz50_0 := cz0_ BK183; have hcz50_1 := cz1_ BK183; have hcz50_2 := cz2_ BK183; have hcz50_3 := cz3_ BK183; have hcz50_4 := cz4_ BK183; have hcz50_5 := cz5_ BK183; have hcz50_6 := cz6_ BK183; have hcz50_7 := cz7_ BK183; have hcz50_8 := cz8_ BK183; have hcz50_9 := cz9_ BK183; have hcz50_10 := cz10_ BK183; have hcz50_11 := cz11_ BK183; have hcz50_12 := cz12_ BK183; have hcz51_0 := cz0_ BK182; have hcz51_1 := cz1_ BK182; have hcz51_2 := cz2_ BK182; have hcz51_3 := cz3_ BK182; have hcz51_4 := cz4_ BK182; have hcz51_5 := cz5_ BK182; have hcz51_6 := cz6_ BK182; have hcz51_7 := cz7_ BK182; have hcz51_8 := cz8_ BK182; have hcz51_9 := cz9_ BK182; have hcz51_10 := cz10_ BK182; have hcz51_11 := cz11_ BK182; have hcz51_12 := cz12_ BK182))
    (try simp only [Act.put, sA_, sB_, sC_])
    go_cut [38] (fun v38 wc => ∃ (kq : Nat) (x38_45 : Bool), v38 = .bool x38_45 ∧ Aside0 (spec_siBroken.j1 kq x38_45 a0_0 a0_1 a0_2 a0_3 a0_4 a0_5 a0_6 a0_7 a0_8 a0_9 a0_10 a0_11 a0_12 a1_0 a1_1 a1_2 a1_3 a1_4 a1_5 a1_6 a1_7 a1_8 a1_9 a1_10 a1_11 a1_12 = some r) ∧ Aside0 (kq ≤ k) ∧ Aside0 (wc.heap[gb182]? = some (.cells #[.int .i64 a0_0, .int .i64 a0_1, .int .i64 a0_2, .int .i64 a0_3, .int .i64 a0_4, .bool a0_5, .int .i64 a0_6, .int .i64 a0_7, .int .i64 a0_8, .int .i64 a0_9, .bool a0_10, .string a0_11, .int .i64 a0_12] 42 (0, 0))) ∧ Aside0 (wc.heap[gb183]? = some (.cells #[.int .i64 a1_0, .int .i64 a1_1, .int .i64 a1_2, .int .i64 a1_3, .int .i64 a1_4, .bool a1_5, .int .i64 a1_6, .int .i64 a1_7, .int .i64 a1_8, .int .i64 a1_9, .bool a1_10, .string a1_11, .int .i64 a1_12] 42 (0, 0))) ∧ Aside0 (Below w.heap.size w wc))
    case first =>
     have H := HC46.out
     clear HC46
     by_cases c52 : (!(a0_6 == a1_6) || (!(a0_7 == a1_7))) = true
     ·rw [if_pos c52] at H
      have c52b0 : (!(a0_6 == a1_6) || (!(a0_7 == a1_7))) = true := c52
      clear c52
      (first | rw [c52b0] | (simp only [i64_w, i32_w]; rw [c52b0]) | skip)
      replace H := Option.bind_eq_some_iff.mp H
      obtain ⟨⟨t189, t190⟩, A530, H⟩ := H
      try dsimp only at H
      have A53 := Aside0.mk A530
      clear A530
      have H' := Aside0.mk H
      clear H
      try go_wp2
      replace BK182 := am_ (blk_drew BK182.out)
      replace BK183 := am_ (blk_drew BK183.out)
      replace HB := am_ (below_drew1 HB.out)
      refine start_ (n := 14) (S := spec_siBroken.S0 gb182 gb183 a0_0 a0_1 a0_2 a0_3 a0_4 a0_6 a0_7 a0_8 a0_9 a0_12 a1_0 a1_1 a1_2 a1_3 a1_4 a1_6 a1_7 a1_8 a1_9 a1_12 a0_5 a0_10 a1_5 a1_10 a0_11 a1_11) (ds := []) #[false, false, false, false, false, false, false, false, false, false, false, false, false, false] (by kernel_rfl) rfl rfl (by repeat' (first | apply And.intro | exact (blk_cell BK182.out _).trans rfl | exact (blk_cell BK183.out _).trans rfl)) (fun hHeld => ?_); refine with_tabW spec_siBroken.tab15 spec_siBroken.bits15 (fun HT_ HW_ => ?_)
      generalize w48.drew = w54 at BK182 BK183 HB hHeld ⊢
      refine pu2_ (i := 0) (N := some 39) #[true, false, false, false, false, false, false, false, false, false, false, false, false, false] rfl rfl ?_
      refine pu2_ (i := 2) (N := some 41) #[true, false, true, false, false, false, false, false, false, false, false, false, false, false] rfl rfl ?_
      refine tk2_ (i := 1) (N := some 40) #[true, true, true, false, false, false, false, false, false, false, false, false, false, false] rfl rfl hHeld ?_
      refine tk2_ (i := 3) (N := some 42) #[true, true, true, true, false, false, false, false, false, false, false, false, false, false] rfl rfl hHeld ?_
      refine pu2_ (i := 4) (N := some 43) #[true, true, true, true, true, false, false, false, false, false, false, false, false, false] rfl rfl ?_
      refine pu2_ (i := 5) (N := some 44) #[true, true, true, true, true, true, false, false, false, false, false, false, false, false] rfl rfl ?_
      refine pu2_ (i := 6) (N := some 45) #[true, true, true, true, true, true, true, false, false, false, false, false, false, false] rfl rfl ?_
      refine pu2_ (i := 8) (N := some 47) #[true, true, true, true, true, true, true, false, true, false, false, false, false, false] rfl rfl ?_
      refine tk2_ (i := 7) (N := some 46) #[true, true, true, true, true, true, true, true, true, false, false, false, false, false] rfl rfl hHeld ?_
      refine tk2_ (i := 9) (N := some 48) #[true, true, true, true, true, true, true, true, true, true, false, false, false, false] rfl rfl hHeld ?_
      refine one_ (i := 10) (N := some 49) #[true, true, true, true, true, true, true, true, true, true, true, false, false, false] rfl rfl (one_of HT_.out (by kernel_rfl)) (by decide) (fun K hK => ?_)
      refine goes_ Tryz.func83 (by kernel_rfl) rfl #[.agg #[.int .i64 a1_6, .int .i64 a1_7]] (by rfl) rfl rfl args_ ?_
      with_reducible refine (spec_orMirror.calls a1_6 a1_7 t189 t190 _ A53.out).mono ?_
      rintro e w55 ⟨rfl, hb⟩
      refine ⟨_, rfl, ?_⟩
      replace BK182 := am_ (lb_ BK182 hb)
      replace BK183 := am_ (lb_ BK183 hb)
      replace HB := am_ (below_step (bb2_ HB GE182 GE183) hb)
      (try clear hb)
      (try clear hb2)
      (try clear hk)
      (try clear hi)
      refine hK.out _ _ (by repeat' (first | apply And.intro | exact (blk_cell BK182.out _).trans rfl | exact (blk_cell BK183.out _).trans rfl)) (fun hHeld => ?_)
      clear hK K
      refine nm2_ ?_
      refine pu2_ (i := 11) (N := some 50) #[true, true, true, true, true, true, true, true, true, true, true, true, false, false] rfl rfl ?_
      refine pu2_ (i := 12) (N := some 51) #[true, true, true, true, true, true, true, true, true, true, true, true, true, false] rfl rfl ?_
      refine pu2_ (i := 13) (N := some 38) #[true, true, true, true, true, true, true, true, true, true, true, true, true, true] rfl rfl ?_
      refine done_ (done_of HT_.out (by kernel_rfl)) ?_
      try go_wp2
      go_meet
      case rel => exact ⟨_, ((!(a0_6 == t189) || (!(a0_7 == t190)))), (by first | rfl | (simp; done) | (simp [*]; done)), H', ⟨by first | omega | exact Nat.le_refl _⟩, ⟨by (with_reducible repeat (first | apply lN_ | apply lD_ | apply lA_)); exact BK182.out⟩, ⟨by (with_reducible repeat (first | apply lN_ | apply lD_ | apply lA_)); exact BK183.out⟩, ⟨bb2_ HB GE182 GE183⟩⟩
     ·rw [if_neg c52] at H
      have c52b0 : (!(a0_6 == a1_6) || (!(a0_7 == a1_7))) = false := by simpa using c52
      clear c52
      (first | rw [c52b0] | (simp only [i64_w, i32_w]; rw [c52b0]) | skip)
      have H' := Aside0.mk H
      clear H
      try go_wp2
      replace BK182 := am_ (blk_drew BK182.out)
      replace BK183 := am_ (blk_drew BK183.out)
      replace HB := am_ (below_drew1 HB.out)
      refine start_ (n := 14) (S := spec_siBroken.S0 gb182 gb183 a0_0 a0_1 a0_2 a0_3 a0_4 a0_6 a0_7 a0_8 a0_9 a0_12 a1_0 a1_1 a1_2 a1_3 a1_4 a1_6 a1_7 a1_8 a1_9 a1_12 a0_5 a0_10 a1_5 a1_10 a0_11 a1_11) (ds := []) #[false, false, false, false, false, false, false, false, false, false, false, false, false, false] (by kernel_rfl) rfl rfl (by repeat' (first | apply And.intro | exact (blk_cell BK182.out _).trans rfl | exact (blk_cell BK183.out _).trans rfl)) (fun hHeld => ?_); refine with_tabW spec_siBroken.tab15 spec_siBroken.bits15 (fun HT_ HW_ => ?_)
      generalize w48.drew = w56 at BK182 BK183 HB hHeld ⊢
      refine pu2_ (i := 0) (N := some 39) #[true, false, false, false, false, false, false, false, false, false, false, false, false, false] rfl rfl ?_
      refine pu2_ (i := 2) (N := some 41) #[true, false, true, false, false, false, false, false, false, false, false, false, false, false] rfl rfl ?_
      refine tk2_ (i := 1) (N := some 40) #[true, true, true, false, false, false, false, false, false, false, false, false, false, false] rfl rfl hHeld ?_
      refine tk2_ (i := 3) (N := some 42) #[true, true, true, true, false, false, false, false, false, false, false, false, false, false] rfl rfl hHeld ?_
      refine pu2_ (i := 4) (N := some 43) #[true, true, true, true, true, false, false, false, false, false, false, false, false, false] rfl rfl ?_
      refine pu2_ (i := 5) (N := some 44) #[true, true, true, true, true, true, false, false, false, false, false, false, false, false] rfl rfl ?_
      refine pure_ (i := 6) (N := some 45) (v := undef) (a' := ?_) #[true, true, true, true, true, true, true, false, false, false, false, false, false, false] rfl rfl (any_of HT_.out (by kernel_rfl)) (fun _ _ _ h => h) (Or.inr ⟨by rfl, rfl⟩) ?_ ?_
      rotate_left
      ·simp only [Act.put, sA_, sB_, sC_, i64_w, i32_w]
       rfl
      refine pure_ (i := 7) (N := some 46) (v := undef) (a' := ?_) #[true, true, true, true, true, true, true, true, false, false, false, false, false, false] rfl rfl (any_of HT_.out (by kernel_rfl)) (fun _ _ _ h => h) (Or.inr ⟨by rfl, rfl⟩) ?_ ?_
      rotate_left
      ·simp only [Act.put, sA_, sB_, sC_, i64_w, i32_w]
       rfl
      refine pure_ (i := 8) (N := some 47) (v := undef) (a' := ?_) #[true, true, true, true, true, true, true, true, true, false, false, false, false, false] rfl rfl (any_of HT_.out (by kernel_rfl)) (fun _ _ _ h => h) (Or.inr ⟨by rfl, rfl⟩) ?_ ?_
      rotate_left
      ·simp only [Act.put, sA_, sB_, sC_, i64_w, i32_w]
       rfl
      refine pure_ (i := 9) (N := some 48) (v := undef) (a' := ?_) #[true, true, true, true, true, true, true, true, true, true, false, false, false, false] rfl rfl (any_of HT_.out (by kernel_rfl)) (fun _ _ _ h => h) (Or.inr ⟨by rfl, rfl⟩) ?_ ?_
      rotate_left
      ·simp only [Act.put, sA_, sB_, sC_, i64_w, i32_w]
       rfl
      refine pure_ (i := 10) (N := some 49) (v := undef) (a' := ?_) #[true, true, true, true, true, true, true, true, true, true, true, false, false, false] rfl rfl (any_of HT_.out (by kernel_rfl)) (fun _ _ _ h => h) (Or.inr ⟨by rfl, rfl⟩) ?_ ?_
      rotate_left
      ·simp only [Act.put, sA_, sB_, sC_, i64_w, i32_w]
       rfl
      refine pure_ (i := 11) (N := some 50) (v := undef) (a' := ?_) #[true, true, true, true, true, true, true, true, true, true, true, true, false, false] rfl rfl (any_of HT_.out (by kernel_rfl)) (fun _ _ _ h => h) (Or.inr ⟨by rfl, rfl⟩) ?_ ?_
      rotate_left
      ·simp only [Act.put, sA_, sB_, sC_, i64_w, i32_w]
       rfl
      refine pu2_ (i := 12) (N := some 51) #[true, true, true, true, true, true, true, true, true, true, true, true, true, false] rfl rfl ?_
      refine pu2_ (i := 13) (N := some 38) #[true, true, true, true, true, true, true, true, true, true, true, true, true, true] rfl rfl ?_
      refine done_ (done_of HT_.out (by kernel_rfl)) ?_
      try go_wp2
      go_meet
      case rel => exact ⟨_, (false), (by first | rfl | (simp; done) | (simp [*]; done)), H', ⟨by first | omega | exact Nat.le_refl _⟩, ⟨by (with_reducible repeat (first | apply lN_ | apply lD_ | apply lA_)); exact BK182.out⟩, ⟨by (with_reducible repeat (first | apply lN_ | apply lD_ | apply lA_)); exact BK183.out⟩, ⟨bb2_ HB GE182 GE183⟩⟩
    case rest =>
     clear HC46
     try clear c1
     try clear p1
     try clear q1
     try clear hx1
     try clear c2
     try clear p2
     try clear c3
     try clear c3b0
     try clear c3b1
     try clear c4
     try clear c4b0
     try clear c4b1
     try clear c4b2
     try clear c5
     try clear p6
     try clear c7
     try clear c8
     try clear c13
     try clear c18
     try clear c18b0
     try clear p18
     try clear q18
     try clear hx18
     try clear c19
     try clear c19b0
     try clear c20
     try clear c20b0
     try clear c21
     try clear c21b0
     try clear c21b1
     try clear c21b2
     try clear c23
     try clear c24
     try clear c26
     try clear c29
     try clear c30
     try clear c32
     try clear c34
     try clear c34b0
     try clear c34b1
     try clear c37
     try clear c40
     try clear c40b0
     try clear c43
     try clear c46
     try clear c49
     try clear c52
     try clear c52b0
     try clear hcz14_0
     try clear hcz14_1
     try clear hcz14_10
     try clear hcz14_11
     try clear hcz14_12
     try clear hcz14_2
     try clear hcz14_3
     try clear hcz14_4
     try clear hcz14_5
     try clear hcz14_6
     try clear hcz14_7
     try clear hcz14_8
     try clear hcz14_9
     try clear hcz15_0
     try clear hcz15_1
     try clear hcz15_10
     try clear hcz15_11
     try clear hcz15_12
     try clear hcz15_2
     try clear hcz15_3
     try clear hcz15_4
     try clear hcz15_5
     try clear hcz15_6
     try clear hcz15_7
     try clear hcz15_8
     try clear hcz15_9
     try clear hcz25_0
     try clear hcz25_1
     try clear hcz25_2
     try clear hcz25_3
     try clear hcz25_4
     try clear hcz25_5
     try clear hcz27_0
     try clear hcz27_1
     try clear hcz27_10
     try clear hcz27_11
     try clear hcz27_12
     try clear hcz27_2
     try clear hcz27_3
     try clear hcz27_4
     try clear hcz27_5
     try clear hcz27_6
     try clear hcz27_7
     try clear hcz27_8
     try clear hcz27_9
     try clear hcz31_0
     try clear hcz31_1
     try clear hcz31_2
     try clear hcz31_3
     try clear hcz31_4
     try clear hcz31_5
     try clear hcz33_0
     try clear hcz33_1
     try clear hcz33_10
     try clear hcz33_11
     try clear hcz33_12
     try clear hcz33_2
     try clear hcz33_3
     try clear hcz33_4
     try clear hcz33_5
     try clear hcz33_6
     try clear hcz33_7
     try clear hcz33_8
     try clear hcz33_9
     try clear hcz38_0
     try clear hcz38_1
     try clear hcz38_10
     try clear hcz38_11
     try clear hcz38_12
     try clear hcz38_2
     try clear hcz38_3
     try clear hcz38_4
     try clear hcz38_5
     try clear hcz38_6
     try clear hcz38_7
     try clear hcz38_8
     try clear hcz38_9
     try clear hcz39_0
     try clear hcz39_1
     try clear hcz39_10
     try clear hcz39_11
     try clear hcz39_12
     try clear hcz39_2
     try clear hcz39_3
     try clear hcz39_4
     try clear hcz39_5
     try clear hcz39_6
     try clear hcz39_7
     try clear hcz39_8
     try clear hcz39_9
     try clear hcz44_0
     try clear hcz44_1
     try clear hcz44_10
     try clear hcz44_11
     try clear hcz44_12
     try clear hcz44_2
     try clear hcz44_3
     try clear hcz44_4
     try clear hcz44_5
     try clear hcz44_6
     try clear hcz44_7
     try clear hcz44_8
     try clear hcz44_9
     try clear hcz45_0
     try clear hcz45_1
     try clear hcz45_10
     try clear hcz45_11
     try clear hcz45_12
     try clear hcz45_2
     try clear hcz45_3
     try clear hcz45_4
     try clear hcz45_5
     try clear hcz45_6
     try clear hcz45_7
     try clear hcz45_8
     try clear hcz45_9
     try clear hcz50_0
     try clear hcz50_1
     try clear hcz50_10
     try clear hcz50_11
     try clear hcz50_12
     try clear hcz50_2
     try clear hcz50_3
     try clear hcz50_4
     try clear hcz50_5
     try clear hcz50_6
     try clear hcz50_7
     try clear hcz50_8
     try clear hcz50_9
     try clear hcz51_0
     try clear hcz51_1
     try clear hcz51_10
     try clear hcz51_11
     try clear hcz51_12
     try clear hcz51_2
     try clear hcz51_3
     try clear hcz51_4
     try clear hcz51_5
     try clear hcz51_6
     try clear hcz51_7
     try clear hcz51_8
     try clear hcz51_9
     try clear hcz8_0
     try clear hcz8_1
     try clear hcz8_10
     try clear hcz8_11
     try clear hcz8_12
     try clear hcz8_2
     try clear hcz8_3
     try clear hcz8_4
     try clear hcz8_5
     try clear hcz8_6
     try clear hcz8_7
     try clear hcz8_8
     try clear hcz8_9
     try clear hcz9_0
     try clear hcz9_1
     try clear hcz9_10
     try clear hcz9_11
     try clear hcz9_12
     try clear hcz9_2
     try clear hcz9_3
     try clear hcz9_4
     try clear hcz9_5
     try clear hcz9_6
     try clear hcz9_7
     try clear hcz9_8
     try clear hcz9_9
     try clear hfz25_0
     try clear hfz25_1
     try clear hfz25_2
     try clear hfz25_3
     try clear hfz25_4
     try clear hfz25_5
     try clear hfz31_0
     try clear hfz31_1
     try clear hfz31_2
     try clear hfz31_3
     try clear hfz31_4
     try clear hfz31_5
     try clear hx187_0
     try clear hx187_1
     try clear hx187_2
     try clear hx187_3
     try clear hx187_4
     try clear hx187_5
     try clear p187
     try clear p2
     try clear q187
     obtain ⟨kq, x38_45, rfl, HA, HJ45, BK182, BK183, HB⟩ := hcut
     cases kq with
     | zero => exact absurd HA.out (by simp [spec_siBroken.j1])
     | succ kj45 =>
      have H := HA.out
      clear HA
      simp only [spec_siBroken.j1] at H
      by_cases c57 : x38_45 = true
      ·subst c57
       have H1 : (some 2) = some r := by rw [if_pos rfl] at H; exact H
       clear H
       have H := H1
       clear H1
       obtain rfl := Option.some.inj H
       go_wp2
       go_ret
       exact ⟨ew_, bb2_ HB GE182 GE183⟩
      ·replace c57 := Bool.eq_false_iff.mpr c57
       subst c57
       have H1 : ((spec_mvAll.f kj45 a0_11 a0_12).bind fun t191 => ((spec_mvAll.f kj45 a1_11 a1_12).bind fun t192 => (if t191.toList = t192.toList then (some 0) else ((spec_mvMirror.f kj45 a0_11 a0_12).bind fun bt193 => ((spec_mvAll.f kj45 bt193.1 bt193.2).bind fun t195 => ((spec_mvAll.f kj45 a1_11 a1_12).bind fun t196 => (if t195.toList = t196.toList then (some 0) else (some 3)))))))) = some r := by rw [if_neg (show ¬ (false = true) by decide)] at H; exact H
       clear H
       have H := H1
       clear H1
       replace H := Option.bind_eq_some_iff.mp H
       obtain ⟨t191, A580, H⟩ := H
       try dsimp only at H
       have A58 := Aside0.mk A580
       clear A580
       replace H := Option.bind_eq_some_iff.mp H
       obtain ⟨t192, A590, H⟩ := H
       try dsimp only at H
       have A59 := Aside0.mk A590
       clear A590
       by_cases c60 : t191.toList = t192.toList
       ·rw [if_pos c60] at H
        have c60b0 : (t191.toList == t192.toList) = true := beq_iff_eq.mpr c60
        have c60b1 : (t191.toList != t192.toList) = false := bne_eq_false_iff_eq.mpr c60
        clear c60
        obtain rfl := Option.some.inj H
        try go_wp2
        replace BK182 := am_ (blk_drew BK182.out)
        replace BK183 := am_ (blk_drew BK183.out)
        replace HB := am_ (below_drew1 HB.out)
        refine start_ (n := 18) (S := spec_siBroken.S0 gb182 gb183 a0_0 a0_1 a0_2 a0_3 a0_4 a0_6 a0_7 a0_8 a0_9 a0_12 a1_0 a1_1 a1_2 a1_3 a1_4 a1_6 a1_7 a1_8 a1_9 a1_12 a0_5 a0_10 a1_5 a1_10 a0_11 a1_11) (ds := []) #[false, false, false, false, false, false, false, false, false, false, false, false, false, false, false, false, false, false] (by kernel_rfl) rfl rfl (by repeat' (first | apply And.intro | exact (blk_cell BK182.out _).trans rfl | exact (blk_cell BK183.out _).trans rfl)) (fun hHeld => ?_); refine with_tabW spec_siBroken.tab17 spec_siBroken.bits17 (fun HT_ HW_ => ?_)
        generalize wc.drew = w61 at BK182 BK183 HB hHeld ⊢
        refine pu2_ (i := 0) (N := some 53) #[true, false, false, false, false, false, false, false, false, false, false, false, false, false, false, false, false, false] rfl rfl ?_
        refine pu2_ (i := 3) (N := some 56) #[true, false, false, true, false, false, false, false, false, false, false, false, false, false, false, false, false, false] rfl rfl ?_
        refine tk2_ (i := 1) (N := some 54) #[true, true, false, true, false, false, false, false, false, false, false, false, false, false, false, false, false, false] rfl rfl hHeld ?_
        refine tk2_ (i := 4) (N := some 57) #[true, true, false, true, true, false, false, false, false, false, false, false, false, false, false, false, false, false] rfl rfl hHeld ?_
        refine one_ (i := 2) (N := some 55) #[true, true, true, true, true, false, false, false, false, false, false, false, false, false, false, false, false, false] rfl rfl (one_of HT_.out (by kernel_rfl)) (by decide) (fun K hK => ?_)
        refine goes_ Tryz.func74 (by kernel_rfl) rfl #[.agg #[.string a0_11, .int .i64 a0_12]] (by rfl) rfl rfl args_ ?_
        with_reducible refine (spec_mvAll.calls kj45 a0_11 a0_12 t191 _ A58.out).mono ?_
        rintro e w62 ⟨rfl, hb⟩
        refine ⟨_, rfl, ?_⟩
        replace BK182 := am_ (lb_ BK182 hb)
        replace BK183 := am_ (lb_ BK183 hb)
        replace HB := am_ (below_step (bb2_ HB GE182 GE183) hb)
        (try clear hb)
        (try clear hb2)
        (try clear hk)
        (try clear hi)
        refine hK.out _ _ (by repeat' (first | apply And.intro | exact (blk_cell BK182.out _).trans rfl | exact (blk_cell BK183.out _).trans rfl)) (fun hHeld => ?_)
        clear hK K
        refine nm2_ ?_
        refine one_ (i := 5) (N := some 58) #[true, true, true, true, true, true, false, false, false, false, false, false, false, false, false, false, false, false] rfl rfl (one_of HT_.out (by kernel_rfl)) (by decide) (fun K hK => ?_)
        refine goes_ Tryz.func74 (by kernel_rfl) rfl #[.agg #[.string a1_11, .int .i64 a1_12]] (by rfl) rfl rfl args_ ?_
        with_reducible refine (spec_mvAll.calls kj45 a1_11 a1_12 t192 _ A59.out).mono ?_
        rintro e w63 ⟨rfl, hb⟩
        refine ⟨_, rfl, ?_⟩
        replace BK182 := am_ (lb_ BK182 hb)
        replace BK183 := am_ (lb_ BK183 hb)
        replace HB := am_ (below_step (bb2_ HB GE182 GE183) hb)
        (try clear hb)
        (try clear hb2)
        (try clear hk)
        (try clear hi)
        refine hK.out _ _ (by repeat' (first | apply And.intro | exact (blk_cell BK182.out _).trans rfl | exact (blk_cell BK183.out _).trans rfl)) (fun hHeld => ?_)
        clear hK K
        refine nm2_ ?_
        refine pu2_ (i := 6) (N := some 59) #[true, true, true, true, true, true, true, false, false, false, false, false, false, false, false, false, false, false] rfl rfl ?_
        refine pu2_ (i := 7) (N := some 60) #[true, true, true, true, true, true, true, true, false, false, false, false, false, false, false, false, false, false] rfl rfl ?_
        refine pure_ (i := 8) (N := some 61) (v := undef) (a' := ?_) #[true, true, true, true, true, true, true, true, true, false, false, false, false, false, false, false, false, false] rfl rfl (any_of HT_.out (by kernel_rfl)) (fun _ _ _ h => h) (Or.inr ⟨by rfl, rfl⟩) ?_ ?_
        rotate_left
        ·simp only [Act.put, sA_, sB_, sC_, i64_w, i32_w]
         rfl
        refine pure_ (i := 9) (N := some 62) (v := undef) (a' := ?_) #[true, true, true, true, true, true, true, true, true, true, false, false, false, false, false, false, false, false] rfl rfl (any_of HT_.out (by kernel_rfl)) (fun _ _ _ h => h) (Or.inr ⟨by rfl, rfl⟩) ?_ ?_
        rotate_left
        ·simp only [Act.put, sA_, sB_, sC_, i64_w, i32_w]
         rfl
        refine pure_ (i := 10) (N := some 63) (v := undef) (a' := ?_) #[true, true, true, true, true, true, true, true, true, true, true, false, false, false, false, false, false, false] rfl rfl (any_of HT_.out (by kernel_rfl)) (fun _ _ _ h => h) (Or.inr ⟨by rfl, rfl⟩) ?_ ?_
        rotate_left
        ·simp only [Act.put, sA_, sB_, sC_, i64_w, i32_w]
         rfl
        refine pure_ (i := 11) (N := some 64) (v := undef) (a' := ?_) #[true, true, true, true, true, true, true, true, true, true, true, true, false, false, false, false, false, false] rfl rfl (any_of HT_.out (by kernel_rfl)) (fun _ _ _ h => h) (Or.inr ⟨by rfl, rfl⟩) ?_ ?_
        rotate_left
        ·simp only [Act.put, sA_, sB_, sC_, i64_w, i32_w]
         rfl
        refine pure_ (i := 12) (N := some 65) (v := undef) (a' := ?_) #[true, true, true, true, true, true, true, true, true, true, true, true, true, false, false, false, false, false] rfl rfl (any_of HT_.out (by kernel_rfl)) (fun _ _ _ h => h) (Or.inr ⟨by rfl, rfl⟩) ?_ ?_
        rotate_left
        ·simp only [Act.put, sA_, sB_, sC_, i64_w, i32_w]
         rfl
        refine pure_ (i := 13) (N := some 66) (v := undef) (a' := ?_) #[true, true, true, true, true, true, true, true, true, true, true, true, true, true, false, false, false, false] rfl rfl (any_of HT_.out (by kernel_rfl)) (fun _ _ _ h => h) (Or.inr ⟨by rfl, rfl⟩) ?_ ?_
        rotate_left
        ·simp only [Act.put, sA_, sB_, sC_, i64_w, i32_w]
         rfl
        refine pure_ (i := 14) (N := some 67) (v := undef) (a' := ?_) #[true, true, true, true, true, true, true, true, true, true, true, true, true, true, true, false, false, false] rfl rfl (any_of HT_.out (by kernel_rfl)) (fun _ _ _ h => h) (Or.inr ⟨by rfl, rfl⟩) ?_ ?_
        rotate_left
        ·simp only [Act.put, sA_, sB_, sC_, i64_w, i32_w]
         rfl
        refine pure_ (i := 15) (N := some 68) (v := undef) (a' := ?_) #[true, true, true, true, true, true, true, true, true, true, true, true, true, true, true, true, false, false] rfl rfl (any_of HT_.out (by kernel_rfl)) (fun _ _ _ h => h) (Or.inr ⟨by rfl, rfl⟩) ?_ ?_
        rotate_left
        ·simp only [Act.put, sA_, sB_, sC_, i64_w, i32_w]
         rfl
        refine pu2_ (i := 16) (N := some 69) #[true, true, true, true, true, true, true, true, true, true, true, true, true, true, true, true, true, false] rfl rfl ?_
        refine pu2_ (i := 17) (N := some 52) #[true, true, true, true, true, true, true, true, true, true, true, true, true, true, true, true, true, true] rfl rfl ?_
        refine done_ (done_of HT_.out (by kernel_rfl)) ?_
        try go_wp2
        go_ret
        exact ⟨ew_, bb2_ HB GE182 GE183⟩
       ·rw [if_neg c60] at H
        have c60b0 : (t191.toList == t192.toList) = false := beq_eq_false_iff_ne.mpr c60
        have c60b1 : (t191.toList != t192.toList) = true := bne_iff_ne.mpr c60
        replace H := Option.bind_eq_some_iff.mp H
        obtain ⟨⟨t193, t194⟩, A640, H⟩ := H
        try dsimp only at H
        have A64 := Aside0.mk A640
        clear A640
        replace H := Option.bind_eq_some_iff.mp H
        obtain ⟨t195, A650, H⟩ := H
        try dsimp only at H
        have A65 := Aside0.mk A650
        clear A650
        replace H := Option.bind_eq_some_iff.mp H
        obtain ⟨t196, A660, H⟩ := H
        try dsimp only at H
        have A66 := Aside0.mk A660
        clear A660
        by_cases c67 : t195.toList = t196.toList
        ·rw [if_pos c67] at H
         have c67b0 : (t195.toList == t196.toList) = true := beq_iff_eq.mpr c67
         have c67b1 : (t195.toList != t196.toList) = false := bne_eq_false_iff_eq.mpr c67
         clear c67
         obtain rfl := Option.some.inj H
         try go_wp2
         replace BK182 := am_ (blk_drew BK182.out)
         replace BK183 := am_ (blk_drew BK183.out)
         replace HB := am_ (below_drew1 HB.out)
         refine start_ (n := 18) (S := spec_siBroken.S0 gb182 gb183 a0_0 a0_1 a0_2 a0_3 a0_4 a0_6 a0_7 a0_8 a0_9 a0_12 a1_0 a1_1 a1_2 a1_3 a1_4 a1_6 a1_7 a1_8 a1_9 a1_12 a0_5 a0_10 a1_5 a1_10 a0_11 a1_11) (ds := []) #[false, false, false, false, false, false, false, false, false, false, false, false, false, false, false, false, false, false] (by kernel_rfl) rfl rfl (by repeat' (first | apply And.intro | exact (blk_cell BK182.out _).trans rfl | exact (blk_cell BK183.out _).trans rfl)) (fun hHeld => ?_); refine with_tabW spec_siBroken.tab17 spec_siBroken.bits17 (fun HT_ HW_ => ?_)
         generalize wc.drew = w68 at BK182 BK183 HB hHeld ⊢
         refine pu2_ (i := 0) (N := some 53) #[true, false, false, false, false, false, false, false, false, false, false, false, false, false, false, false, false, false] rfl rfl ?_
         refine pu2_ (i := 3) (N := some 56) #[true, false, false, true, false, false, false, false, false, false, false, false, false, false, false, false, false, false] rfl rfl ?_
         refine tk2_ (i := 1) (N := some 54) #[true, true, false, true, false, false, false, false, false, false, false, false, false, false, false, false, false, false] rfl rfl hHeld ?_
         refine tk2_ (i := 4) (N := some 57) #[true, true, false, true, true, false, false, false, false, false, false, false, false, false, false, false, false, false] rfl rfl hHeld ?_
         refine one_ (i := 2) (N := some 55) #[true, true, true, true, true, false, false, false, false, false, false, false, false, false, false, false, false, false] rfl rfl (one_of HT_.out (by kernel_rfl)) (by decide) (fun K hK => ?_)
         refine goes_ Tryz.func74 (by kernel_rfl) rfl #[.agg #[.string a0_11, .int .i64 a0_12]] (by rfl) rfl rfl args_ ?_
         with_reducible refine (spec_mvAll.calls kj45 a0_11 a0_12 t191 _ A58.out).mono ?_
         rintro e w69 ⟨rfl, hb⟩
         refine ⟨_, rfl, ?_⟩
         replace BK182 := am_ (lb_ BK182 hb)
         replace BK183 := am_ (lb_ BK183 hb)
         replace HB := am_ (below_step (bb2_ HB GE182 GE183) hb)
         (try clear hb)
         (try clear hb2)
         (try clear hk)
         (try clear hi)
         refine hK.out _ _ (by repeat' (first | apply And.intro | exact (blk_cell BK182.out _).trans rfl | exact (blk_cell BK183.out _).trans rfl)) (fun hHeld => ?_)
         clear hK K
         refine nm2_ ?_
         refine one_ (i := 5) (N := some 58) #[true, true, true, true, true, true, false, false, false, false, false, false, false, false, false, false, false, false] rfl rfl (one_of HT_.out (by kernel_rfl)) (by decide) (fun K hK => ?_)
         refine goes_ Tryz.func74 (by kernel_rfl) rfl #[.agg #[.string a1_11, .int .i64 a1_12]] (by rfl) rfl rfl args_ ?_
         with_reducible refine (spec_mvAll.calls kj45 a1_11 a1_12 t192 _ A59.out).mono ?_
         rintro e w70 ⟨rfl, hb⟩
         refine ⟨_, rfl, ?_⟩
         replace BK182 := am_ (lb_ BK182 hb)
         replace BK183 := am_ (lb_ BK183 hb)
         replace HB := am_ (below_step (bb2_ HB GE182 GE183) hb)
         (try clear hb)
         (try clear hb2)
         (try clear hk)
         (try clear hi)
         refine hK.out _ _ (by repeat' (first | apply And.intro | exact (blk_cell BK182.out _).trans rfl | exact (blk_cell BK183.out _).trans rfl)) (fun hHeld => ?_)
         clear hK K
         refine nm2_ ?_
         refine pu2_ (i := 6) (N := some 59) #[true, true, true, true, true, true, true, false, false, false, false, false, false, false, false, false, false, false] rfl rfl ?_
         refine pu2_ (i := 7) (N := some 60) #[true, true, true, true, true, true, true, true, false, false, false, false, false, false, false, false, false, false] rfl rfl ?_
         refine pu2_ (i := 8) (N := some 61) #[true, true, true, true, true, true, true, true, true, false, false, false, false, false, false, false, false, false] rfl rfl ?_
         refine pu2_ (i := 12) (N := some 65) #[true, true, true, true, true, true, true, true, true, false, false, false, true, false, false, false, false, false] rfl rfl ?_
         refine tk2_ (i := 9) (N := some 62) #[true, true, true, true, true, true, true, true, true, true, false, false, true, false, false, false, false, false] rfl rfl hHeld ?_
         refine tk2_ (i := 13) (N := some 66) #[true, true, true, true, true, true, true, true, true, true, false, false, true, true, false, false, false, false] rfl rfl hHeld ?_
         refine one_ (i := 10) (N := some 63) #[true, true, true, true, true, true, true, true, true, true, true, false, true, true, false, false, false, false] rfl rfl (one_of HT_.out (by kernel_rfl)) (by decide) (fun K hK => ?_)
         refine goes_ Tryz.func84 (by kernel_rfl) rfl #[.agg #[.string a0_11, .int .i64 a0_12]] (by rfl) rfl rfl args_ ?_
         with_reducible refine (spec_mvMirror.calls (w := _) (h := A64.out)).mono ?_
         rintro e w71 ⟨rfl, hb⟩
         refine ⟨_, rfl, ?_⟩
         replace BK182 := am_ (lb_ BK182 hb)
         replace BK183 := am_ (lb_ BK183 hb)
         replace HB := am_ (below_step (bb2_ HB GE182 GE183) hb)
         (try clear hb)
         (try clear hb2)
         (try clear hk)
         (try clear hi)
         refine hK.out _ _ (by repeat' (first | apply And.intro | exact (blk_cell BK182.out _).trans rfl | exact (blk_cell BK183.out _).trans rfl)) (fun hHeld => ?_)
         clear hK K
         refine nm2_ ?_
         refine one_ (i := 11) (N := some 64) #[true, true, true, true, true, true, true, true, true, true, true, true, true, true, false, false, false, false] rfl rfl (one_of HT_.out (by kernel_rfl)) (by decide) (fun K hK => ?_)
         refine goes_ Tryz.func74 (by kernel_rfl) rfl #[.agg #[.string t193, .int .i64 t194]] (by rfl) rfl rfl args_ ?_
         with_reducible refine (spec_mvAll.calls kj45 t193 t194 t195 _ A65.out).mono ?_
         rintro e w72 ⟨rfl, hb⟩
         refine ⟨_, rfl, ?_⟩
         replace BK182 := am_ (lb_ BK182 hb)
         replace BK183 := am_ (lb_ BK183 hb)
         replace HB := am_ (below_step (bb2_ HB GE182 GE183) hb)
         (try clear hb)
         (try clear hb2)
         (try clear hk)
         (try clear hi)
         refine hK.out _ _ (by repeat' (first | apply And.intro | exact (blk_cell BK182.out _).trans rfl | exact (blk_cell BK183.out _).trans rfl)) (fun hHeld => ?_)
         clear hK K
         refine nm2_ ?_
         refine one_ (i := 14) (N := some 67) #[true, true, true, true, true, true, true, true, true, true, true, true, true, true, true, false, false, false] rfl rfl (one_of HT_.out (by kernel_rfl)) (by decide) (fun K hK => ?_)
         refine goes_ Tryz.func74 (by kernel_rfl) rfl #[.agg #[.string a1_11, .int .i64 a1_12]] (by rfl) rfl rfl args_ ?_
         with_reducible refine (spec_mvAll.calls kj45 a1_11 a1_12 t196 _ A66.out).mono ?_
         rintro e w73 ⟨rfl, hb⟩
         refine ⟨_, rfl, ?_⟩
         replace BK182 := am_ (lb_ BK182 hb)
         replace BK183 := am_ (lb_ BK183 hb)
         replace HB := am_ (below_step (bb2_ HB GE182 GE183) hb)
         (try clear hb)
         (try clear hb2)
         (try clear hk)
         (try clear hi)
         refine hK.out _ _ (by repeat' (first | apply And.intro | exact (blk_cell BK182.out _).trans rfl | exact (blk_cell BK183.out _).trans rfl)) (fun hHeld => ?_)
         clear hK K
         refine nm2_ ?_
         refine pu2_ (i := 15) (N := some 68) #[true, true, true, true, true, true, true, true, true, true, true, true, true, true, true, true, false, false] rfl rfl ?_
         refine pu2_ (i := 16) (N := some 69) #[true, true, true, true, true, true, true, true, true, true, true, true, true, true, true, true, true, false] rfl rfl ?_
         refine pu2_ (i := 17) (N := some 52) #[true, true, true, true, true, true, true, true, true, true, true, true, true, true, true, true, true, true] rfl rfl ?_
         refine done_ (done_of HT_.out (by kernel_rfl)) ?_
         try go_wp2
         go_ret
         exact ⟨ew_, bb2_ HB GE182 GE183⟩
        ·rw [if_neg c67] at H
         have c67b0 : (t195.toList == t196.toList) = false := beq_eq_false_iff_ne.mpr c67
         have c67b1 : (t195.toList != t196.toList) = true := bne_iff_ne.mpr c67
         obtain rfl := Option.some.inj H
         try go_wp2
         replace BK182 := am_ (blk_drew BK182.out)
         replace BK183 := am_ (blk_drew BK183.out)
         replace HB := am_ (below_drew1 HB.out)
         refine start_ (n := 18) (S := spec_siBroken.S0 gb182 gb183 a0_0 a0_1 a0_2 a0_3 a0_4 a0_6 a0_7 a0_8 a0_9 a0_12 a1_0 a1_1 a1_2 a1_3 a1_4 a1_6 a1_7 a1_8 a1_9 a1_12 a0_5 a0_10 a1_5 a1_10 a0_11 a1_11) (ds := []) #[false, false, false, false, false, false, false, false, false, false, false, false, false, false, false, false, false, false] (by kernel_rfl) rfl rfl (by repeat' (first | apply And.intro | exact (blk_cell BK182.out _).trans rfl | exact (blk_cell BK183.out _).trans rfl)) (fun hHeld => ?_); refine with_tabW spec_siBroken.tab17 spec_siBroken.bits17 (fun HT_ HW_ => ?_)
         generalize wc.drew = w74 at BK182 BK183 HB hHeld ⊢
         refine pu2_ (i := 0) (N := some 53) #[true, false, false, false, false, false, false, false, false, false, false, false, false, false, false, false, false, false] rfl rfl ?_
         refine pu2_ (i := 3) (N := some 56) #[true, false, false, true, false, false, false, false, false, false, false, false, false, false, false, false, false, false] rfl rfl ?_
         refine tk2_ (i := 1) (N := some 54) #[true, true, false, true, false, false, false, false, false, false, false, false, false, false, false, false, false, false] rfl rfl hHeld ?_
         refine tk2_ (i := 4) (N := some 57) #[true, true, false, true, true, false, false, false, false, false, false, false, false, false, false, false, false, false] rfl rfl hHeld ?_
         refine one_ (i := 2) (N := some 55) #[true, true, true, true, true, false, false, false, false, false, false, false, false, false, false, false, false, false] rfl rfl (one_of HT_.out (by kernel_rfl)) (by decide) (fun K hK => ?_)
         refine goes_ Tryz.func74 (by kernel_rfl) rfl #[.agg #[.string a0_11, .int .i64 a0_12]] (by rfl) rfl rfl args_ ?_
         with_reducible refine (spec_mvAll.calls kj45 a0_11 a0_12 t191 _ A58.out).mono ?_
         rintro e w75 ⟨rfl, hb⟩
         refine ⟨_, rfl, ?_⟩
         replace BK182 := am_ (lb_ BK182 hb)
         replace BK183 := am_ (lb_ BK183 hb)
         replace HB := am_ (below_step (bb2_ HB GE182 GE183) hb)
         (try clear hb)
         (try clear hb2)
         (try clear hk)
         (try clear hi)
         refine hK.out _ _ (by repeat' (first | apply And.intro | exact (blk_cell BK182.out _).trans rfl | exact (blk_cell BK183.out _).trans rfl)) (fun hHeld => ?_)
         clear hK K
         refine nm2_ ?_
         refine one_ (i := 5) (N := some 58) #[true, true, true, true, true, true, false, false, false, false, false, false, false, false, false, false, false, false] rfl rfl (one_of HT_.out (by kernel_rfl)) (by decide) (fun K hK => ?_)
         refine goes_ Tryz.func74 (by kernel_rfl) rfl #[.agg #[.string a1_11, .int .i64 a1_12]] (by rfl) rfl rfl args_ ?_
         with_reducible refine (spec_mvAll.calls kj45 a1_11 a1_12 t192 _ A59.out).mono ?_
         rintro e w76 ⟨rfl, hb⟩
         refine ⟨_, rfl, ?_⟩
         replace BK182 := am_ (lb_ BK182 hb)
         replace BK183 := am_ (lb_ BK183 hb)
         replace HB := am_ (below_step (bb2_ HB GE182 GE183) hb)
         (try clear hb)
         (try clear hb2)
         (try clear hk)
         (try clear hi)
         refine hK.out _ _ (by repeat' (first | apply And.intro | exact (blk_cell BK182.out _).trans rfl | exact (blk_cell BK183.out _).trans rfl)) (fun hHeld => ?_)
         clear hK K
         refine nm2_ ?_
         refine pu2_ (i := 6) (N := some 59) #[true, true, true, true, true, true, true, false, false, false, false, false, false, false, false, false, false, false] rfl rfl ?_
         refine pu2_ (i := 7) (N := some 60) #[true, true, true, true, true, true, true, true, false, false, false, false, false, false, false, false, false, false] rfl rfl ?_
         refine pu2_ (i := 8) (N := some 61) #[true, true, true, true, true, true, true, true, true, false, false, false, false, false, false, false, false, false] rfl rfl ?_
         refine pu2_ (i := 12) (N := some 65) #[true, true, true, true, true, true, true, true, true, false, false, false, true, false, false, false, false, false] rfl rfl ?_
         refine tk2_ (i := 9) (N := some 62) #[true, true, true, true, true, true, true, true, true, true, false, false, true, false, false, false, false, false] rfl rfl hHeld ?_
         refine tk2_ (i := 13) (N := some 66) #[true, true, true, true, true, true, true, true, true, true, false, false, true, true, false, false, false, false] rfl rfl hHeld ?_
         refine one_ (i := 10) (N := some 63) #[true, true, true, true, true, true, true, true, true, true, true, false, true, true, false, false, false, false] rfl rfl (one_of HT_.out (by kernel_rfl)) (by decide) (fun K hK => ?_)
         refine goes_ Tryz.func84 (by kernel_rfl) rfl #[.agg #[.string a0_11, .int .i64 a0_12]] (by rfl) rfl rfl args_ ?_
         with_reducible refine (spec_mvMirror.calls (w := _) (h := A64.out)).mono ?_
         rintro e w77 ⟨rfl, hb⟩
         refine ⟨_, rfl, ?_⟩
         replace BK182 := am_ (lb_ BK182 hb)
         replace BK183 := am_ (lb_ BK183 hb)
         replace HB := am_ (below_step (bb2_ HB GE182 GE183) hb)
         (try clear hb)
         (try clear hb2)
         (try clear hk)
         (try clear hi)
         refine hK.out _ _ (by repeat' (first | apply And.intro | exact (blk_cell BK182.out _).trans rfl | exact (blk_cell BK183.out _).trans rfl)) (fun hHeld => ?_)
         clear hK K
         refine nm2_ ?_
         refine one_ (i := 11) (N := some 64) #[true, true, true, true, true, true, true, true, true, true, true, true, true, true, false, false, false, false] rfl rfl (one_of HT_.out (by kernel_rfl)) (by decide) (fun K hK => ?_)
         refine goes_ Tryz.func74 (by kernel_rfl) rfl #[.agg #[.string t193, .int .i64 t194]] (by rfl) rfl rfl args_ ?_
         with_reducible refine (spec_mvAll.calls kj45 t193 t194 t195 _ A65.out).mono ?_
         rintro e w78 ⟨rfl, hb⟩
         refine ⟨_, rfl, ?_⟩
         replace BK182 := am_ (lb_ BK182 hb)
         replace BK183 := am_ (lb_ BK183 hb)
         replace HB := am_ (below_step (bb2_ HB GE182 GE183) hb)
         (try clear hb)
         (try clear hb2)
         (try clear hk)
         (try clear hi)
         refine hK.out _ _ (by repeat' (first | apply And.intro | exact (blk_cell BK182.out _).trans rfl | exact (blk_cell BK183.out _).trans rfl)) (fun hHeld => ?_)
         clear hK K
         refine nm2_ ?_
         refine one_ (i := 14) (N := some 67) #[true, true, true, true, true, true, true, true, true, true, true, true, true, true, true, false, false, false] rfl rfl (one_of HT_.out (by kernel_rfl)) (by decide) (fun K hK => ?_)
         refine goes_ Tryz.func74 (by kernel_rfl) rfl #[.agg #[.string a1_11, .int .i64 a1_12]] (by rfl) rfl rfl args_ ?_
         with_reducible refine (spec_mvAll.calls kj45 a1_11 a1_12 t196 _ A66.out).mono ?_
         rintro e w79 ⟨rfl, hb⟩
         refine ⟨_, rfl, ?_⟩
         replace BK182 := am_ (lb_ BK182 hb)
         replace BK183 := am_ (lb_ BK183 hb)
         replace HB := am_ (below_step (bb2_ HB GE182 GE183) hb)
         (try clear hb)
         (try clear hb2)
         (try clear hk)
         (try clear hi)
         refine hK.out _ _ (by repeat' (first | apply And.intro | exact (blk_cell BK182.out _).trans rfl | exact (blk_cell BK183.out _).trans rfl)) (fun hHeld => ?_)
         clear hK K
         refine nm2_ ?_
         refine pu2_ (i := 15) (N := some 68) #[true, true, true, true, true, true, true, true, true, true, true, true, true, true, true, true, false, false] rfl rfl ?_
         refine pu2_ (i := 16) (N := some 69) #[true, true, true, true, true, true, true, true, true, true, true, true, true, true, true, true, true, false] rfl rfl ?_
         refine pu2_ (i := 17) (N := some 52) #[true, true, true, true, true, true, true, true, true, true, true, true, true, true, true, true, true, true] rfl rfl ?_
         refine done_ (done_of HT_.out (by kernel_rfl)) ?_
         try go_wp2
         go_ret
         exact ⟨ew_, bb2_ HB GE182 GE183⟩

end Go.Proofs.YtmbffgkejknfaaaGreatDoor.PA
