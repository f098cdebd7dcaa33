-- Written by a program of this session (wip/tools/myprint.py). Not trusted: Lean checks it.
import Derived.Test.YtihibilkmjpmdaaGreatDoorPAx0
import Derived.Test.YtihibilkmjpmdaaGreatDoorPAx1
import Derived.Test.YtihibilkmjpmdaaGreatDoorPAx2
import Derived.Test.YtihibilkmjpmdaaGreatDoorPAx11
import Derived.Test.YtihibilkmjpmdaaGreatDoorPAx13
namespace Go.Proofs.YtihibilkmjpmdaaGreatDoor.PA
open Go.RowKit Go.Proofs.YtihibilkmjpmdaaGreatDoorW.PrintWords Go.Proofs.YtihibilkmjpmdaaGreatDoorW.PrintLast Go.Proofs.YtihibilkmjpmdaaGreatDoorW.PrintMore
attribute [local go_sem] max2_int min2_int max_two min_two max_three min_three max_four min_four   -- for this text's walks alone
set_option linter.unusedVariables false
set_option linter.unusedSimpArgs false

attribute [local go_sem high] eqA35 eqA36
/-! ### impl_BrokenRule: function 12 -/
def impl_BrokenRule.j0 : Nat → Bool → Int → Int → Int → Int → Int → Bool → Int → Int → Int → Int → Bool → ByteArray → Int → Int → Int → Int → Int → Int → Bool → Int → Int → Int → Int → Bool → ByteArray → Int → Option (Int × Bool)
 | 0, _, _, _, _, _, _, _, _, _, _, _, _, _, _, _, _, _, _, _, _, _, _, _, _, _, _, _ => none
 | k + 1, x13, x395000, x395001, x395002, x395003, x395004, x395005, x395006, x395007, x395008, x395009, x395010, x395011, x395012, x396000, x396001, x396002, x396003, x396004, x396005, x396006, x396007, x396008, x396009, x396010, x396011, x396012 => if x13 = true then (some (0, false)) else ((impl_keepRules.f k x395000 x395001 x395002 x395003 x395004 x395005 x395006 x395007 x395008 x395009 x395010 x395011 x395012 x396000 x396001 x396002 x396003 x396004 x396005 x396006 x396007 x396008 x396009 x396010 x396011 x396012).bind fun t398 => (if t398 = true then (some (0, true)) else ((impl_Hand_moves.f x396000 x396001 x396002 x396003 x396004 x396005 x396006 x396007 x396008 x396009 x396010 x396011 x396012).bind fun t399 => (if t399 = true then ((impl_Hand_moves.f x395000 x395001 x395002 x395003 x395004 x395005 x395006 x395007 x395008 x395009 x395010 x395011 x395012).bind fun t400 => (if t400 = true then (if (!(x395000 == x396000) || (!(x395001 == x396001) || (!(x395002 == x396002) || (!(x395003 == x396003) || (!(x395004 == x396004) || (!(x395005 == x396005))))))) = true then (some (1, true)) else (if (!(x396006 == x395006) || (!(x396007 == x395007))) = true then ((impl_Orient_mirrored.f x395006 x395007).bind fun bt401 => (if (!(x396006 == bt401.1) || (!(x396007 == bt401.2))) = true then (some (2, true)) else (some (3, true)))) else (some (3, true)))) else (some (3, true)))) else (some (4, true))))))
def impl_BrokenRule.f (k : Nat) (a0_0 : Int) (a0_1 : Int) (a0_2 : Int) (a0_3 : Int) (a0_4 : Int) (a0_5 : Bool) (a0_6 : Int) (a0_7 : Int) (a0_8 : Int) (a0_9 : Int) (a0_10 : Bool) (a0_11 : ByteArray) (a0_12 : Int) (a1_0 : Int) (a1_1 : Int) (a1_2 : Int) (a1_3 : Int) (a1_4 : Int) (a1_5 : Bool) (a1_6 : Int) (a1_7 : Int) (a1_8 : Int) (a1_9 : Int) (a1_10 : Bool) (a1_11 : ByteArray) (a1_12 : Int) : Option (Int × Bool) := (impl_IsHand.f k a0_0 a0_1 a0_2 a0_3 a0_4 a0_5 a0_6 a0_7 a0_8 a0_9 a0_10 a0_11 a0_12).bind fun t396 => (if t396 = true then ((impl_IsHand.f k a1_0 a1_1 a1_2 a1_3 a1_4 a1_5 a1_6 a1_7 a1_8 a1_9 a1_10 a1_11 a1_12).bind fun t397 => (impl_BrokenRule.j0 k (!t397) a0_0 a0_1 a0_2 a0_3 a0_4 a0_5 a0_6 a0_7 a0_8 a0_9 a0_10 a0_11 a0_12 a1_0 a1_1 a1_2 a1_3 a1_4 a1_5 a1_6 a1_7 a1_8 a1_9 a1_10 a1_11 a1_12)) else (impl_BrokenRule.j0 k true a0_0 a0_1 a0_2 a0_3 a0_4 a0_5 a0_6 a0_7 a0_8 a0_9 a0_10 a0_11 a0_12 a1_0 a1_1 a1_2 a1_3 a1_4 a1_5 a1_6 a1_7 a1_8 a1_9 a1_10 a1_11 a1_12))
theorem impl_BrokenRule.mono_l : ∀ k, (∀ y0 y1 y2 y3 y4 y5 y6 y7 y8 y9 y10 y11 y12 y13 y14 y15 y16 y17 y18 y19 y20 y21 y22 y23 y24 y25 y26, LeO (impl_BrokenRule.j0 k y0 y1 y2 y3 y4 y5 y6 y7 y8 y9 y10 y11 y12 y13 y14 y15 y16 y17 y18 y19 y20 y21 y22 y23 y24 y25 y26) (impl_BrokenRule.j0 (k + 1) y0 y1 y2 y3 y4 y5 y6 y7 y8 y9 y10 y11 y12 y13 y14 y15 y16 y17 y18 y19 y20 y21 y22 y23 y24 y25 y26))
 | 0 => fun _ _ _ _ _ _ _ _ _ _ _ _ _ _ _ _ _ _ _ _ _ _ _ _ _ _ _ r h => by simp [impl_BrokenRule.j0] at h
 | k + 1 => by
  have ih0 := impl_BrokenRule.mono_l k
  ·intro y0 y1 y2 y3 y4 y5 y6 y7 y8 y9 y10 y11 y12 y13 y14 y15 y16 y17 y18 y19 y20 y21 y22 y23 y24 y25 y26
   unfold impl_BrokenRule.j0
   repeat' first
   | (with_reducible exact ih0 _ _ _ _ _ _ _ _ _ _ _ _ _ _ _ _ _ _ _ _ _ _ _ _ _ _ _)
   | (with_reducible exact impl_IsHand.mono _ _ _ _ _ _ _ _ _ _ _ _ _ _)
   | (with_reducible exact impl_keepRules.mono _ _ _ _ _ _ _ _ _ _ _ _ _ _ _ _ _ _ _ _ _ _ _ _ _ _ _)
   | (with_reducible exact LeO.refl _)
   | (with_reducible exact LeO.none _)
   | (with_reducible refine LeO.ite ?_ ?_)
   | (with_reducible refine LeO.bind ?_ (fun _ => ?_))
   | exact ih0 _ _ _ _ _ _ _ _ _ _ _ _ _ _ _ _ _ _ _ _ _ _ _ _ _ _ _
   | exact LeO.none _
   | refine LeO.ite ?_ ?_
   | refine LeO.bind ?_ (fun _ => ?_)
theorem impl_BrokenRule.mono : ∀ a0 a1 a2 a3 a4 a5 a6 a7 a8 a9 a10 a11 a12 a13 a14 a15 a16 a17 a18 a19 a20 a21 a22 a23 a24 a25 k, LeO (impl_BrokenRule.f k a0 a1 a2 a3 a4 a5 a6 a7 a8 a9 a10 a11 a12 a13 a14 a15 a16 a17 a18 a19 a20 a21 a22 a23 a24 a25) (impl_BrokenRule.f (k + 1) a0 a1 a2 a3 a4 a5 a6 a7 a8 a9 a10 a11 a12 a13 a14 a15 a16 a17 a18 a19 a20 a21 a22 a23 a24 a25) := by
 intro a0 a1 a2 a3 a4 a5 a6 a7 a8 a9 a10 a11 a12 a13 a14 a15 a16 a17 a18 a19 a20 a21 a22 a23 a24 a25 k
 have ih0 := impl_BrokenRule.mono_l k
 unfold impl_BrokenRule.f
 repeat' first
   | (with_reducible exact ih0 _ _ _ _ _ _ _ _ _ _ _ _ _ _ _ _ _ _ _ _ _ _ _ _ _ _ _)
   | (with_reducible exact impl_IsHand.mono _ _ _ _ _ _ _ _ _ _ _ _ _ _)
   | (with_reducible exact impl_keepRules.mono _ _ _ _ _ _ _ _ _ _ _ _ _ _ _ _ _ _ _ _ _ _ _ _ _ _ _)
   | (with_reducible exact LeO.refl _)
   | (with_reducible exact LeO.none _)
   | (with_reducible refine LeO.ite ?_ ?_)
   | (with_reducible refine LeO.bind ?_ (fun _ => ?_))
   | exact ih0 _ _ _ _ _ _ _ _ _ _ _ _ _ _ _ _ _ _ _ _ _ _ _ _ _ _ _
   | exact LeO.none _
   | refine LeO.ite ?_ ?_
   | refine LeO.bind ?_ (fun _ => ?_)
def impl_BrokenRule.T11 : Bool × List (List Nat × List Nat) := (true, [([], []), ([0], [0]), ([], []), ([2], [2]), ([1, 3], [1, 3]), ([4], [4]), ([5], [5]), ([6, 5], [5, 6]), ([5], [5]), ([8, 5], [5, 8]), ([9, 5, 5], [5, 9]), ([7, 10, 5], [5, 7, 10]), ([5, 11], [5, 11]), ([12, 10], [12])])
def impl_BrokenRule.B11 : List Nat := [0, 1, 0, 4, 15, 31, 63, 127, 63, 319, 831, 2047, 4095, 8191]
theorem impl_BrokenRule.tab11 : rtab .any (opsOf Tryz.f12 11) = impl_BrokenRule.T11 := by kernel_rfl
theorem impl_BrokenRule.bits11 : waitsOk impl_BrokenRule.T11.2 impl_BrokenRule.B11 = true := by kernel_rfl
abbrev impl_BrokenRule.S0 (z0_ : Nat) (z1_ : Nat) (z2_ : Int) (z3_ : Int) (z4_ : Int) (z5_ : Int) (z6_ : Int) (z7_ : Int) (z8_ : Int) (z9_ : Int) (z10_ : Int) (z11_ : Int) (z12_ : Int) (z13_ : Int) (z14_ : Int) (z15_ : Int) (z16_ : Int) (z17_ : Int) (z18_ : Int) (z19_ : Int) (z20_ : Int) (z21_ : Int) (z22_ : Bool) (z23_ : Bool) (z24_ : Bool) (z25_ : Bool) (z26_ : ByteArray) (z27_ : ByteArray) : World → Prop := fun w' => w'.cell? ⟨z0_, 0, none⟩ = some (.int .i64 z2_) ∧ w'.cell? ⟨z0_, 1, none⟩ = some (.int .i64 z3_) ∧ w'.cell? ⟨z0_, 2, none⟩ = some (.int .i64 z4_) ∧ w'.cell? ⟨z0_, 3, none⟩ = some (.int .i64 z5_) ∧ w'.cell? ⟨z0_, 4, none⟩ = some (.int .i64 z6_) ∧ w'.cell? ⟨z0_, 5, none⟩ = some (.bool z22_) ∧ w'.cell? ⟨z0_, 6, none⟩ = some (.int .i64 z7_) ∧ w'.cell? ⟨z0_, 7, none⟩ = some (.int .i64 z8_) ∧ w'.cell? ⟨z0_, 8, none⟩ = some (.int .i64 z9_) ∧ w'.cell? ⟨z0_, 9, none⟩ = some (.int .i64 z10_) ∧ w'.cell? ⟨z0_, 10, none⟩ = some (.bool z23_) ∧ w'.cell? ⟨z0_, 11, none⟩ = some (.string z26_) ∧ w'.cell? ⟨z0_, 12, none⟩ = some (.int .i64 z11_) ∧ w'.cell? ⟨z1_, 0, none⟩ = some (.int .i64 z12_) ∧ w'.cell? ⟨z1_, 1, none⟩ = some (.int .i64 z13_) ∧ w'.cell? ⟨z1_, 2, none⟩ = some (.int .i64 z14_) ∧ w'.cell? ⟨z1_, 3, none⟩ = some (.int .i64 z15_) ∧ w'.cell? ⟨z1_, 4, none⟩ = some (.int .i64 z16_) ∧ w'.cell? ⟨z1_, 5, none⟩ = some (.bool z24_) ∧ w'.cell? ⟨z1_, 6, none⟩ = some (.int .i64 z17_) ∧ w'.cell? ⟨z1_, 7, none⟩ = some (.int .i64 z18_) ∧ w'.cell? ⟨z1_, 8, none⟩ = some (.int .i64 z19_) ∧ w'.cell? ⟨z1_, 9, none⟩ = some (.int .i64 z20_) ∧ w'.cell? ⟨z1_, 10, none⟩ = some (.bool z25_) ∧ w'.cell? ⟨z1_, 11, none⟩ = some (.string z27_) ∧ w'.cell? ⟨z1_, 12, none⟩ = some (.int .i64 z21_)
set_option maxHeartbeats 8000000 in
set_option maxRecDepth 100000 in
theorem impl_BrokenRule.calls (k : Nat) (a0_0 : Int) (a0_1 : Int) (a0_2 : Int) (a0_3 : Int) (a0_4 : Int) (a0_5 : Bool) (a0_6 : Int) (a0_7 : Int) (a0_8 : Int) (a0_9 : Int) (a0_10 : Bool) (a0_11 : ByteArray) (a0_12 : Int) (a1_0 : Int) (a1_1 : Int) (a1_2 : Int) (a1_3 : Int) (a1_4 : Int) (a1_5 : Bool) (a1_6 : Int) (a1_7 : Int) (a1_8 : Int) (a1_9 : Int) (a1_10 : Bool) (a1_11 : ByteArray) (a1_12 : Int) (r1 : Int) (r2 : Bool) (w : World) (h : impl_BrokenRule.f k a0_0 a0_1 a0_2 a0_3 a0_4 a0_5 a0_6 a0_7 a0_8 a0_9 a0_10 a0_11 a0_12 a1_0 a1_1 a1_2 a1_3 a1_4 a1_5 a1_6 a1_7 a1_8 a1_9 a1_10 a1_11 a1_12 = some (r1, r2)) :
  Calls Tryz.prog 12 #[.agg #[.int .i64 a0_0, .int .i64 a0_1, .int .i64 a0_2, .int .i64 a0_3, .int .i64 a0_4, .bool a0_5, .int .i64 a0_6, .int .i64 a0_7, .int .i64 a0_8, .int .i64 a0_9, .bool a0_10, .string a0_11, .int .i64 a0_12], .agg #[.int .i64 a1_0, .int .i64 a1_1, .int .i64 a1_2, .int .i64 a1_3, .int .i64 a1_4, .bool a1_5, .int .i64 a1_6, .int .i64 a1_7, .int .i64 a1_8, .int .i64 a1_9, .bool a1_10, .string a1_11, .int .i64 a1_12]] w fun e w' => e = .returned (.tuple #[.int .i64 r1, .bool r2]) ∧ Below w.heap.size w w' := by
 have hu40 := Tryz.underlying40
 have hu35 := Tryz.underlying35
 have hu36 := Tryz.underlying36
 have HB := Aside0.mk (Below.refl w.heap.size w)
 have H : ((impl_IsHand.f k a0_0 a0_1 a0_2 a0_3 a0_4 a0_5 a0_6 a0_7 a0_8 a0_9 a0_10 a0_11 a0_12).bind fun t396 => (if t396 = true then ((impl_IsHand.f k a1_0 a1_1 a1_2 a1_3 a1_4 a1_5 a1_6 a1_7 a1_8 a1_9 a1_10 a1_11 a1_12).bind fun t397 => (impl_BrokenRule.j0 k (!t397) a0_0 a0_1 a0_2 a0_3 a0_4 a0_5 a0_6 a0_7 a0_8 a0_9 a0_10 a0_11 a0_12 a1_0 a1_1 a1_2 a1_3 a1_4 a1_5 a1_6 a1_7 a1_8 a1_9 a1_10 a1_11 a1_12)) else (impl_BrokenRule.j0 k true a0_0 a0_1 a0_2 a0_3 a0_4 a0_5 a0_6 a0_7 a0_8 a0_9 a0_10 a0_11 a0_12 a1_0 a1_1 a1_2 a1_3 a1_4 a1_5 a1_6 a1_7 a1_8 a1_9 a1_10 a1_11 a1_12))) = some (r1, r2) := h
 clear h
 have HC3 := Aside0.mk H
 clear H
 go_enter Tryz.func12, Tryz.ntmps12
 go_upto_region 1 with (first | ((with_reducible refine gate_dst (N := 2) rfl ?_); refine box_event ?hg (N := 2) ?hd (cs := #[.int .i64 a0_0, .int .i64 a0_1, .int .i64 a0_2, .int .i64 a0_3, .int .i64 a0_4, .bool a0_5, .int .i64 a0_6, .int .i64 a0_7, .int .i64 a0_8, .int .i64 a0_9, .bool a0_10, .string a0_11, .int .i64 a0_12]) (t := 40) ?hr ?_; (case hd => rfl); (case hg => rfl); (case hr => first | (go_simp; done) | (go_simp; rfl)); intro gb394 hg w4 hbox hb; have n0_ := Aside0.mk (bt_ HB hb); have n1_ := Aside0.mk (hbox); have n2_ := gz_ hg HB; have n3_ := gz_ hg HB; clear HB; have HB := n0_; have BK394 := n1_; have GW394 := n2_; have GE394 := n3_; clear n0_ n1_ n2_ n3_; clear hb hbox hg) | ((with_reducible refine gate_dst (N := 3) rfl ?_); refine box_event ?hg (N := 3) ?hd (cs := #[.int .i64 a1_0, .int .i64 a1_1, .int .i64 a1_2, .int .i64 a1_3, .int .i64 a1_4, .bool a1_5, .int .i64 a1_6, .int .i64 a1_7, .int .i64 a1_8, .int .i64 a1_9, .bool a1_10, .string a1_11, .int .i64 a1_12]) (t := 40) ?hr ?_; (case hd => rfl); (case hg => rfl); (case hr => first | (go_simp; done) | (go_simp; rfl)); intro gb395 hg w5 hbox hb; have n0_ := Aside0.mk (lb_ BK394 hb); have n1_ := Aside0.mk (below_step (bb1_ HB GE394) hb); have n2_ := Aside0.mk (hbox); have n3_ := gy_ hg (bb1_ HB GE394); have n4_ := gy_ hg (bb1_ HB GE394); have n5_ := nl_ hg BK394; have n6_ := ng_ hg BK394; clear BK394; clear HB; have BK394 := n0_; have HB := n1_; have BK395 := n2_; have GW395 := n3_; have GE395 := n4_; have NB394_395 := n5_; have NB395_394 := n6_; clear n0_ n1_ n2_ n3_ n4_ n5_ n6_; clear hb hbox hg))
 (try simp only [Act.put, sA_, sB_, sC_])
 go_cut [13] (fun v13 wc => ∃ (kq : Nat) (x13_2 : Bool), v13 = .bool x13_2 ∧ Aside0 (impl_BrokenRule.j0 kq x13_2 a0_0 a0_1 a0_2 a0_3 a0_4 a0_5 a0_6 a0_7 a0_8 a0_9 a0_10 a0_11 a0_12 a1_0 a1_1 a1_2 a1_3 a1_4 a1_5 a1_6 a1_7 a1_8 a1_9 a1_10 a1_11 a1_12 = some (r1, r2)) ∧ Aside0 (kq ≤ k) ∧ Aside0 (wc.heap[gb394]? = some (.cells #[.int .i64 a0_0, .int .i64 a0_1, .int .i64 a0_2, .int .i64 a0_3, .int .i64 a0_4, .bool a0_5, .int .i64 a0_6, .int .i64 a0_7, .int .i64 a0_8, .int .i64 a0_9, .bool a0_10, .string a0_11, .int .i64 a0_12] 40 (0, 0))) ∧ Aside0 (wc.heap[gb395]? = some (.cells #[.int .i64 a1_0, .int .i64 a1_1, .int .i64 a1_2, .int .i64 a1_3, .int .i64 a1_4, .bool a1_5, .int .i64 a1_6, .int .i64 a1_7, .int .i64 a1_8, .int .i64 a1_9, .bool a1_10, .string a1_11, .int .i64 a1_12] 40 (0, 0))) ∧ Aside0 (Below w.heap.size w wc))
 case first =>
  have H := HC3.out
  clear HC3
  replace H := Option.bind_eq_some_iff.mp H
  obtain ⟨t396, A60, H⟩ := H
  try dsimp only at H
  have A6 := Aside0.mk A60
  clear A60
  by_cases c7 : t396 = true
  ·subst c7
   have H1 : ((impl_IsHand.f k a1_0 a1_1 a1_2 a1_3 a1_4 a1_5 a1_6 a1_7 a1_8 a1_9 a1_10 a1_11 a1_12).bind fun t397 => (impl_BrokenRule.j0 k (!t397) a0_0 a0_1 a0_2 a0_3 a0_4 a0_5 a0_6 a0_7 a0_8 a0_9 a0_10 a0_11 a0_12 a1_0 a1_1 a1_2 a1_3 a1_4 a1_5 a1_6 a1_7 a1_8 a1_9 a1_10 a1_11 a1_12)) = some (r1, r2) := by rw [if_pos rfl] at H; exact H
   clear H
   have H := H1
   clear H1
   replace H := Option.bind_eq_some_iff.mp H
   obtain ⟨t397, A80, H⟩ := H
   try dsimp only at H
   have A8 := Aside0.mk A80
   clear A80
   have H' := Aside0.mk H
   clear H
   have hnb9 := NB394_395.out
   have hnc9 := NB395_394.out
   have hcz10_0 := cz0_ BK394
   have hcz10_1 := cz1_ BK394
   have hcz10_2 := cz2_ BK394
   have hcz10_3 := cz3_ BK394
   have hcz10_4 := cz4_ BK394
   have hcz10_5 := cz5_ BK394
   have hcz10_6 := cz6_ BK394
   have hcz10_7 := cz7_ BK394
   have hcz10_8 := cz8_ BK394
   have hcz10_9 := cz9_ BK394
   have hcz10_10 := cz10_ BK394
   have hcz10_11 := cz11_ BK394
   have hcz10_12 := cz12_ BK394
   go_wp2_with (first | ((with_reducible refine gate_callee (f := 33) rfl ?_); refine goesL_ (some 7) rfl rfl Tryz.func33 (by kernel_rfl) rfl #[.agg #[.int .i64 a0_0, .int .i64 a0_1, .int .i64 a0_2, .int .i64 a0_3, .int .i64 a0_4, .bool a0_5, .int .i64 a0_6, .int .i64 a0_7, .int .i64 a0_8, .int .i64 a0_9, .bool a0_10, .string a0_11, .int .i64 a0_12]] rfl args_ ?_; (with_reducible refine (impl_IsHand.calls k a0_0 a0_1 a0_2 a0_3 a0_4 a0_5 a0_6 a0_7 a0_8 a0_9 a0_10 a0_11 a0_12 true _ A6.out).mono ?_); rintro e w11 ⟨rfl, hb⟩; refine ⟨_, rfl, ?_⟩; have n0_ := Aside0.mk (lb_ BK394 hb); have n1_ := Aside0.mk (lb_ BK395 hb); have n2_ := Aside0.mk (below_step (bb2_ HB GE394 GE395) hb); clear BK394; clear BK395; clear HB; have BK394 := n0_; have BK395 := n1_; have HB := n2_; clear n0_ n1_ n2_; (try clear hb); (try clear hb2); (try clear hk); (try clear hi); have hcz12_0 := cz0_ BK395; have hcz12_1 := cz1_ BK395; have hcz12_2 := cz2_ BK395; have hcz12_3 := cz3_ BK395; have hcz12_4 := cz4_ BK395; have hcz12_5 := cz5_ BK395; have hcz12_6 := cz6_ BK395; have hcz12_7 := cz7_ BK395; have hcz12_8 := cz8_ BK395; have hcz12_9 := cz9_ BK395; have hcz12_10 := cz10_ BK395; have hcz12_11 := cz11_ BK395; have hcz12_12 := cz12_ BK395) | (go_at_call 33; (with_reducible refine (impl_IsHand.calls k a1_0 a1_1 a1_2 a1_3 a1_4 a1_5 a1_6 a1_7 a1_8 a1_9 a1_10 a1_11 a1_12 t397 _ A8.out).mono ?_); rintro e w13 ⟨rfl, hb⟩; have n0_ := Aside0.mk (lb_ BK394 hb); have n1_ := Aside0.mk (lb_ BK395 hb); have n2_ := Aside0.mk (below_step (bb2_ HB GE394 GE395) hb); clear BK394; clear BK395; clear HB; have BK394 := n0_; have BK395 := n1_; have HB := n2_; clear n0_ n1_ n2_; (try clear hb); (try clear hb2); (try clear hk); (try clear hi)))
   go_meet
   case rel => exact ⟨_, (!t397), (by first | rfl | (simp; done) | (simp [*]; done)), H', ⟨by first | omega | exact Nat.le_refl _⟩, ⟨by (with_reducible repeat (first | apply lN_ | apply lD_ | apply lA_)); exact BK394.out⟩, ⟨by (with_reducible repeat (first | apply lN_ | apply lD_ | apply lA_)); exact BK395.out⟩, ⟨bb2_ HB GE394 GE395⟩⟩
  ·replace c7 := Bool.eq_false_iff.mpr c7
   subst c7
   have H1 : (impl_BrokenRule.j0 k true a0_0 a0_1 a0_2 a0_3 a0_4 a0_5 a0_6 a0_7 a0_8 a0_9 a0_10 a0_11 a0_12 a1_0 a1_1 a1_2 a1_3 a1_4 a1_5 a1_6 a1_7 a1_8 a1_9 a1_10 a1_11 a1_12) = some (r1, r2) := by rw [if_neg (show ¬ (false = true) by decide)] at H; exact H
   clear H
   have H := H1
   clear H1
   have H' := Aside0.mk H
   clear H
   have hnb14 := NB394_395.out
   have hnc14 := NB395_394.out
   have hcz15_0 := cz0_ BK394
   have hcz15_1 := cz1_ BK394
   have hcz15_2 := cz2_ BK394
   have hcz15_3 := cz3_ BK394
   have hcz15_4 := cz4_ BK394
   have hcz15_5 := cz5_ BK394
   have hcz15_6 := cz6_ BK394
   have hcz15_7 := cz7_ BK394
   have hcz15_8 := cz8_ BK394
   have hcz15_9 := cz9_ BK394
   have hcz15_10 := cz10_ BK394
   have hcz15_11 := cz11_ BK394
   have hcz15_12 := cz12_ BK394
   go_wp2_with (first | ((with_reducible refine gate_callee (f := 33) rfl ?_); refine goesL_ (some 7) rfl rfl Tryz.func33 (by kernel_rfl) rfl #[.agg #[.int .i64 a0_0, .int .i64 a0_1, .int .i64 a0_2, .int .i64 a0_3, .int .i64 a0_4, .bool a0_5, .int .i64 a0_6, .int .i64 a0_7, .int .i64 a0_8, .int .i64 a0_9, .bool a0_10, .string a0_11, .int .i64 a0_12]] rfl args_ ?_; (with_reducible refine (impl_IsHand.calls k a0_0 a0_1 a0_2 a0_3 a0_4 a0_5 a0_6 a0_7 a0_8 a0_9 a0_10 a0_11 a0_12 false _ A6.out).mono ?_); rintro e w16 ⟨rfl, hb⟩; refine ⟨_, rfl, ?_⟩; have n0_ := Aside0.mk (lb_ BK394 hb); have n1_ := Aside0.mk (lb_ BK395 hb); have n2_ := Aside0.mk (below_step (bb2_ HB GE394 GE395) hb); clear BK394; clear BK395; clear HB; have BK394 := n0_; have BK395 := n1_; have HB := n2_; clear n0_ n1_ n2_; (try clear hb); (try clear hb2); (try clear hk); (try clear hi)))
   go_meet
   case rel => exact ⟨_, (true), (by first | rfl | (simp; done) | (simp [*]; done)), H', ⟨by first | omega | exact Nat.le_refl _⟩, ⟨by (with_reducible repeat (first | apply lN_ | apply lD_ | apply lA_)); exact BK394.out⟩, ⟨by (with_reducible repeat (first | apply lN_ | apply lD_ | apply lA_)); exact BK395.out⟩, ⟨bb2_ HB GE394 GE395⟩⟩
 case rest =>
  clear HC3
  try clear c1
  try clear p2
  try clear c3
  try clear c7
  try clear c9
  try clear c12
  try clear c14
  try clear hcz10_0
  try clear hcz10_1
  try clear hcz10_10
  try clear hcz10_11
  try clear hcz10_12
  try clear hcz10_2
  try clear hcz10_3
  try clear hcz10_4
  try clear hcz10_5
  try clear hcz10_6
  try clear hcz10_7
  try clear hcz10_8
  try clear hcz10_9
  try clear hcz12_0
  try clear hcz12_1
  try clear hcz12_10
  try clear hcz12_11
  try clear hcz12_12
  try clear hcz12_2
  try clear hcz12_3
  try clear hcz12_4
  try clear hcz12_5
  try clear hcz12_6
  try clear hcz12_7
  try clear hcz12_8
  try clear hcz12_9
  try clear hcz15_0
  try clear hcz15_1
  try clear hcz15_10
  try clear hcz15_11
  try clear hcz15_12
  try clear hcz15_2
  try clear hcz15_3
  try clear hcz15_4
  try clear hcz15_5
  try clear hcz15_6
  try clear hcz15_7
  try clear hcz15_8
  try clear hcz15_9
  obtain ⟨kq, x13_2, rfl, HA, HJ2, BK394, BK395, HB⟩ := hcut
  cases kq with
  | zero => exact absurd HA.out (by simp [impl_BrokenRule.j0])
  | succ kj2 =>
   have H := HA.out
   clear HA
   simp only [impl_BrokenRule.j0] at H
   by_cases c17 : x13_2 = true
   ·subst c17
    have H1 : (some (0, false)) = some (r1, r2) := by rw [if_pos rfl] at H; exact H
    clear H
    have H := H1
    clear H1
    simp only [Option.some.injEq, Prod.mk.injEq] at H
    obtain ⟨rfl, rfl⟩ := H
    go_wp2
    go_ret2
    exact ⟨by first | rfl | (simp [errW_none, errW_some] <;> rfl) | (simp [*, errW_none, errW_some] <;> rfl), bb2_ HB GE394 GE395⟩
   ·replace c17 := Bool.eq_false_iff.mpr c17
    subst c17
    have H1 : ((impl_keepRules.f kj2 a0_0 a0_1 a0_2 a0_3 a0_4 a0_5 a0_6 a0_7 a0_8 a0_9 a0_10 a0_11 a0_12 a1_0 a1_1 a1_2 a1_3 a1_4 a1_5 a1_6 a1_7 a1_8 a1_9 a1_10 a1_11 a1_12).bind fun t398 => (if t398 = true then (some (0, true)) else ((impl_Hand_moves.f a1_0 a1_1 a1_2 a1_3 a1_4 a1_5 a1_6 a1_7 a1_8 a1_9 a1_10 a1_11 a1_12).bind fun t399 => (if t399 = true then ((impl_Hand_moves.f a0_0 a0_1 a0_2 a0_3 a0_4 a0_5 a0_6 a0_7 a0_8 a0_9 a0_10 a0_11 a0_12).bind fun t400 => (if t400 = true then (if (!(a0_0 == a1_0) || (!(a0_1 == a1_1) || (!(a0_2 == a1_2) || (!(a0_3 == a1_3) || (!(a0_4 == a1_4) || (!(a0_5 == a1_5))))))) = true then (some (1, true)) else (if (!(a1_6 == a0_6) || (!(a1_7 == a0_7))) = true then ((impl_Orient_mirrored.f a0_6 a0_7).bind fun bt401 => (if (!(a1_6 == bt401.1) || (!(a1_7 == bt401.2))) = true then (some (2, true)) else (some (3, true)))) else (some (3, true)))) else (some (3, true)))) else (some (4, true)))))) = some (r1, r2) := by rw [if_neg (show ¬ (false = true) by decide)] at H; exact H
    clear H
    have H := H1
    clear H1
    replace H := Option.bind_eq_some_iff.mp H
    obtain ⟨t398, A180, H⟩ := H
    try dsimp only at H
    have A18 := Aside0.mk A180
    clear A180
    by_cases c19 : t398 = true
    ·subst c19
     have H1 : (some (0, true)) = some (r1, r2) := by rw [if_pos rfl] at H; exact H
     clear H
     have H := H1
     clear H1
     simp only [Option.some.injEq, Prod.mk.injEq] at H
     obtain ⟨rfl, rfl⟩ := H
     have hnb20 := NB394_395.out
     have hnc20 := NB395_394.out
     have hcz21_0 := cz0_ BK394
     have hcz21_1 := cz1_ BK394
     have hcz21_2 := cz2_ BK394
     have hcz21_3 := cz3_ BK394
     have hcz21_4 := cz4_ BK394
     have hcz21_5 := cz5_ BK394
     have hcz21_6 := cz6_ BK394
     have hcz21_7 := cz7_ BK394
     have hcz21_8 := cz8_ BK394
     have hcz21_9 := cz9_ BK394
     have hcz21_10 := cz10_ BK394
     have hcz21_11 := cz11_ BK394
     have hcz21_12 := cz12_ BK394
     have hcz22_0 := cz0_ BK395
     have hcz22_1 := cz1_ BK395
     have hcz22_2 := cz2_ BK395
     have hcz22_3 := cz3_ BK395
     have hcz22_4 := cz4_ BK395
     have hcz22_5 := cz5_ BK395
     have hcz22_6 := cz6_ BK395
     have hcz22_7 := cz7_ BK395
     have hcz22_8 := cz8_ BK395
     have hcz22_9 := cz9_ BK395
     have hcz22_10 := cz10_ BK395
     have hcz22_11 := cz11_ BK395
     have hcz22_12 := cz12_ BK395
     go_wp2_with (first | ((with_reducible refine gate_callee (f := 34) rfl ?_); refine goesL_ (some 17) rfl rfl Tryz.func34 (by kernel_rfl) rfl #[.agg #[.int .i64 a0_0, .int .i64 a0_1, .int .i64 a0_2, .int .i64 a0_3, .int .i64 a0_4, .bool a0_5, .int .i64 a0_6, .int .i64 a0_7, .int .i64 a0_8, .int .i64 a0_9, .bool a0_10, .string a0_11, .int .i64 a0_12], .agg #[.int .i64 a1_0, .int .i64 a1_1, .int .i64 a1_2, .int .i64 a1_3, .int .i64 a1_4, .bool a1_5, .int .i64 a1_6, .int .i64 a1_7, .int .i64 a1_8, .int .i64 a1_9, .bool a1_10, .string a1_11, .int .i64 a1_12]] rfl args_ ?_; (with_reducible refine (impl_keepRules.calls kj2 a0_0 a0_1 a0_2 a0_3 a0_4 a0_5 a0_6 a0_7 a0_8 a0_9 a0_10 a0_11 a0_12 a1_0 a1_1 a1_2 a1_3 a1_4 a1_5 a1_6 a1_7 a1_8 a1_9 a1_10 a1_11 a1_12 true _ A18.out).mono ?_); rintro e w23 ⟨rfl, hb⟩; refine ⟨_, rfl, ?_⟩; have n0_ := Aside0.mk (lb_ BK394 hb); have n1_ := Aside0.mk (lb_ BK395 hb); have n2_ := Aside0.mk (below_step (bb2_ HB GE394 GE395) hb); clear BK394; clear BK395; clear HB; have BK394 := n0_; have BK395 := n1_; have HB := n2_; clear n0_ n1_ n2_; (try clear hb); (try clear hb2); (try clear hk); (try clear hi)))
     go_ret2
     exact ⟨by first | rfl | (simp [errW_none, errW_some] <;> rfl) | (simp [*, errW_none, errW_some] <;> rfl), bb2_ HB GE394 GE395⟩
    ·replace c19 := Bool.eq_false_iff.mpr c19
     subst c19
     have H1 : ((impl_Hand_moves.f a1_0 a1_1 a1_2 a1_3 a1_4 a1_5 a1_6 a1_7 a1_8 a1_9 a1_10 a1_11 a1_12).bind fun t399 => (if t399 = true then ((impl_Hand_moves.f a0_0 a0_1 a0_2 a0_3 a0_4 a0_5 a0_6 a0_7 a0_8 a0_9 a0_10 a0_11 a0_12).bind fun t400 => (if t400 = true then (if (!(a0_0 == a1_0) || (!(a0_1 == a1_1) || (!(a0_2 == a1_2) || (!(a0_3 == a1_3) || (!(a0_4 == a1_4) || (!(a0_5 == a1_5))))))) = true then (some (1, true)) else (if (!(a1_6 == a0_6) || (!(a1_7 == a0_7))) = true then ((impl_Orient_mirrored.f a0_6 a0_7).bind fun bt401 => (if (!(a1_6 == bt401.1) || (!(a1_7 == bt401.2))) = true then (some (2, true)) else (some (3, true)))) else (some (3, true)))) else (some (3, true)))) else (some (4, true)))) = some (r1, r2) := by rw [if_neg (show ¬ (false = true) by decide)] at H; exact H
     clear H
     have H := H1
     clear H1
     replace H := Option.bind_eq_some_iff.mp H
     obtain ⟨t399, A240, H⟩ := H
     try dsimp only at H
     have A24 := Aside0.mk A240
     clear A240
     by_cases c25 : t399 = true
     ·subst c25
      have H1 : ((impl_Hand_moves.f a0_0 a0_1 a0_2 a0_3 a0_4 a0_5 a0_6 a0_7 a0_8 a0_9 a0_10 a0_11 a0_12).bind fun t400 => (if t400 = true then (if (!(a0_0 == a1_0) || (!(a0_1 == a1_1) || (!(a0_2 == a1_2) || (!(a0_3 == a1_3) || (!(a0_4 == a1_4) || (!(a0_5 == a1_5))))))) = true then (some (1, true)) else (if (!(a1_6 == a0_6) || (!(a1_7 == a0_7))) = true then ((impl_Orient_mirrored.f a0_6 a0_7).bind fun bt401 => (if (!(a1_6 == bt401.1) || (!(a1_7 == bt401.2))) = true then (some (2, true)) else (some (3, true)))) else (some (3, true)))) else (some (3, true)))) = some (r1, r2) := by rw [if_pos rfl] at H; exact H
      clear H
      have H := H1
      clear H1
      replace H := Option.bind_eq_some_iff.mp H
      obtain ⟨t400, A260, H⟩ := H
      try dsimp only at H
      have A26 := Aside0.mk A260
      clear A260
      by_cases c27 : t400 = true
      ·subst c27
       have H1 : (if (!(a0_0 == a1_0) || (!(a0_1 == a1_1) || (!(a0_2 == a1_2) || (!(a0_3 == a1_3) || (!(a0_4 == a1_4) || (!(a0_5 == a1_5))))))) = true then (some (1, true)) else (if (!(a1_6 == a0_6) || (!(a1_7 == a0_7))) = true then ((impl_Orient_mirrored.f a0_6 a0_7).bind fun bt401 => (if (!(a1_6 == bt401.1) || (!(a1_7 == bt401.2))) = true then (some (2, true)) else (some (3, true)))) else (some (3, true)))) = some (r1, r2) := by rw [if_pos rfl] at H; exact H
       clear H
       have H := H1
       clear H1
       by_cases c28 : (!(a0_0 == a1_0) || (!(a0_1 == a1_1) || (!(a0_2 == a1_2) || (!(a0_3 == a1_3) || (!(a0_4 == a1_4) || (!(a0_5 == a1_5))))))) = true
       ·rw [if_pos c28] at H
        have c28b0 : (!(a0_0 == a1_0) || (!(a0_1 == a1_1) || (!(a0_2 == a1_2) || (!(a0_3 == a1_3) || (!(a0_4 == a1_4) || (!(a0_5 == a1_5))))))) = true := c28
        clear c28
        simp only [Option.some.injEq, Prod.mk.injEq] at H
        obtain ⟨rfl, rfl⟩ := H
        have hnb29 := NB394_395.out
        have hnc29 := NB395_394.out
        have hcz30_0 := cz0_ BK394
        have hcz30_1 := cz1_ BK394
        have hcz30_2 := cz2_ BK394
        have hcz30_3 := cz3_ BK394
        have hcz30_4 := cz4_ BK394
        have hcz30_5 := cz5_ BK394
        have hcz30_6 := cz6_ BK394
        have hcz30_7 := cz7_ BK394
        have hcz30_8 := cz8_ BK394
        have hcz30_9 := cz9_ BK394
        have hcz30_10 := cz10_ BK394
        have hcz30_11 := cz11_ BK394
        have hcz30_12 := cz12_ BK394
        have hcz31_0 := cz0_ BK395
        have hcz31_1 := cz1_ BK395
        have hcz31_2 := cz2_ BK395
        have hcz31_3 := cz3_ BK395
        have hcz31_4 := cz4_ BK395
        have hcz31_5 := cz5_ BK395
        have hcz31_6 := cz6_ BK395
        have hcz31_7 := cz7_ BK395
        have hcz31_8 := cz8_ BK395
        have hcz31_9 := cz9_ BK395
        have hcz31_10 := cz10_ BK395
        have hcz31_11 := cz11_ BK395
        have hcz31_12 := cz12_ BK395
        go_wp2_with (first | ((with_reducible refine gate_callee (f := 34) rfl ?_); refine goesL_ (some 17) rfl rfl Tryz.func34 (by kernel_rfl) rfl #[.agg #[.int .i64 a0_0, .int .i64 a0_1, .int .i64 a0_2, .int .i64 a0_3, .int .i64 a0_4, .bool a0_5, .int .i64 a0_6, .int .i64 a0_7, .int .i64 a0_8, .int .i64 a0_9, .bool a0_10, .string a0_11, .int .i64 a0_12], .agg #[.int .i64 a1_0, .int .i64 a1_1, .int .i64 a1_2, .int .i64 a1_3, .int .i64 a1_4, .bool a1_5, .int .i64 a1_6, .int .i64 a1_7, .int .i64 a1_8, .int .i64 a1_9, .bool a1_10, .string a1_11, .int .i64 a1_12]] rfl args_ ?_; (with_reducible refine (impl_keepRules.calls kj2 a0_0 a0_1 a0_2 a0_3 a0_4 a0_5 a0_6 a0_7 a0_8 a0_9 a0_10 a0_11 a0_12 a1_0 a1_1 a1_2 a1_3 a1_4 a1_5 a1_6 a1_7 a1_8 a1_9 a1_10 a1_11 a1_12 false _ A18.out).mono ?_); rintro e w32 ⟨rfl, hb⟩; refine ⟨_, rfl, ?_⟩; have n0_ := Aside0.mk (lb_ BK394 hb); have n1_ := Aside0.mk (lb_ BK395 hb); have n2_ := Aside0.mk (below_step (bb2_ HB GE394 GE395) hb); clear BK394; clear BK395; clear HB; have BK394 := n0_; have BK395 := n1_; have HB := n2_; clear n0_ n1_ n2_; (try clear hb); (try clear hb2); (try clear hk); (try clear hi); have hcz33_0 := cz0_ BK395; have hcz33_1 := cz1_ BK395; have hcz33_2 := cz2_ BK395; have hcz33_3 := cz3_ BK395; have hcz33_4 := cz4_ BK395; have hcz33_5 := cz5_ BK395; have hcz33_6 := cz6_ BK395; have hcz33_7 := cz7_ BK395; have hcz33_8 := cz8_ BK395; have hcz33_9 := cz9_ BK395; have hcz33_10 := cz10_ BK395; have hcz33_11 := cz11_ BK395; have hcz33_12 := cz12_ BK395) | ((with_reducible refine gate_callee (f := 35) rfl ?_); refine goesL_ (some 20) rfl rfl Tryz.func35 (by kernel_rfl) rfl #[.agg #[.int .i64 a1_0, .int .i64 a1_1, .int .i64 a1_2, .int .i64 a1_3, .int .i64 a1_4, .bool a1_5, .int .i64 a1_6, .int .i64 a1_7, .int .i64 a1_8, .int .i64 a1_9, .bool a1_10, .string a1_11, .int .i64 a1_12]] rfl args_ ?_; (with_reducible refine (impl_Hand_moves.calls a1_0 a1_1 a1_2 a1_3 a1_4 a1_5 a1_6 a1_7 a1_8 a1_9 a1_10 a1_11 a1_12 true _ A24.out).mono ?_); rintro e w34 ⟨rfl, hb⟩; refine ⟨_, rfl, ?_⟩; have n0_ := Aside0.mk (lb_ BK394 hb); have n1_ := Aside0.mk (lb_ BK395 hb); have n2_ := Aside0.mk (below_step (bb2_ HB GE394 GE395) hb); clear BK394; clear BK395; clear HB; have BK394 := n0_; have BK395 := n1_; have HB := n2_; clear n0_ n1_ n2_; (try clear hb); (try clear hb2); (try clear hk); (try clear hi); have hcz35_0 := cz0_ BK394; have hcz35_1 := cz1_ BK394; have hcz35_2 := cz2_ BK394; have hcz35_3 := cz3_ BK394; have hcz35_4 := cz4_ BK394; have hcz35_5 := cz5_ BK394; have hcz35_6 := cz6_ BK394; have hcz35_7 := cz7_ BK394; have hcz35_8 := cz8_ BK394; have hcz35_9 := cz9_ BK394; have hcz35_10 := cz10_ BK394; have hcz35_11 := cz11_ BK394; have hcz35_12 := cz12_ BK394) | ((with_reducible refine gate_callee (f := 35) rfl ?_); refine goesL_ (some 24) rfl rfl Tryz.func35 (by kernel_rfl) rfl #[.agg #[.int .i64 a0_0, .int .i64 a0_1, .int .i64 a0_2, .int .i64 a0_3, .int .i64 a0_4, .bool a0_5, .int .i64 a0_6, .int .i64 a0_7, .int .i64 a0_8, .int .i64 a0_9, .bool a0_10, .string a0_11, .int .i64 a0_12]] rfl args_ ?_; (with_reducible refine (impl_Hand_moves.calls a0_0 a0_1 a0_2 a0_3 a0_4 a0_5 a0_6 a0_7 a0_8 a0_9 a0_10 a0_11 a0_12 true _ A26.out).mono ?_); rintro e w36 ⟨rfl, hb⟩; refine ⟨_, rfl, ?_⟩; have n0_ := Aside0.mk (lb_ BK394 hb); have n1_ := Aside0.mk (lb_ BK395 hb); have n2_ := Aside0.mk (below_step (bb2_ HB GE394 GE395) hb); clear BK394; clear BK395; clear HB; have BK394 := n0_; have BK395 := n1_; have HB := n2_; clear n0_ n1_ n2_; (try clear hb); (try clear hb2); (try clear hk); (try clear hi); have hcz37_0 := cz0_ BK394; have hcz37_1 := cz1_ BK394; have hcz37_2 := cz2_ BK394; have hcz37_3 := cz3_ BK394; have hcz37_4 := cz4_ BK394; have hcz37_5 := cz5_ BK394; have hcz37_6 := cz6_ BK394; have hcz37_7 := cz7_ BK394; have hcz37_8 := cz8_ BK394; have hcz37_9 := cz9_ BK394; have hcz37_10 := cz10_ BK394; have hcz37_11 := cz11_ BK394; have hcz37_12 := cz12_ BK394; have hcz38_0 := cz0_ BK395; have hcz38_1 := cz1_ BK395; have hcz38_2 := cz2_ BK395; have hcz38_3 := cz3_ BK395; have hcz38_4 := cz4_ BK395; have hcz38_5 := cz5_ BK395; have hcz38_6 := cz6_ BK395; have hcz38_7 := cz7_ BK395; have hcz38_8 := cz8_ BK395; have hcz38_9 := cz9_ BK395; have hcz38_10 := cz10_ BK395; have hcz38_11 := cz11_ BK395; have hcz38_12 := cz12_ BK395))
        go_ret2
        exact ⟨by first | rfl | (simp [errW_none, errW_some] <;> rfl) | (simp [*, errW_none, errW_some] <;> rfl), bb2_ HB GE394 GE395⟩
       ·rw [if_neg c28] at H
        have c28b0 : (!(a0_0 == a1_0) || (!(a0_1 == a1_1) || (!(a0_2 == a1_2) || (!(a0_3 == a1_3) || (!(a0_4 == a1_4) || (!(a0_5 == a1_5))))))) = false := by simpa using c28
        clear c28
        by_cases c39 : (!(a1_6 == a0_6) || (!(a1_7 == a0_7))) = true
        ·rw [if_pos c39] at H
         have c39b0 : (!(a1_6 == a0_6) || (!(a1_7 == a0_7))) = true := c39
         clear c39
         replace H := Option.bind_eq_some_iff.mp H
         obtain ⟨⟨t401, t402⟩, A400, H⟩ := H
         try dsimp only at H
         have A40 := Aside0.mk A400
         clear A400
         by_cases c41 : (!(a1_6 == t401) || (!(a1_7 == t402))) = true
         ·rw [if_pos c41] at H
          have c41b0 : (!(a1_6 == t401) || (!(a1_7 == t402))) = true := c41
          clear c41
          simp only [Option.some.injEq, Prod.mk.injEq] at H
          obtain ⟨rfl, rfl⟩ := H
          have hnb42 := NB394_395.out
          have hnc42 := NB395_394.out
          have hcz43_0 := cz0_ BK394
          have hcz43_1 := cz1_ BK394
          have hcz43_2 := cz2_ BK394
          have hcz43_3 := cz3_ BK394
          have hcz43_4 := cz4_ BK394
          have hcz43_5 := cz5_ BK394
          have hcz43_6 := cz6_ BK394
          have hcz43_7 := cz7_ BK394
          have hcz43_8 := cz8_ BK394
          have hcz43_9 := cz9_ BK394
          have hcz43_10 := cz10_ BK394
          have hcz43_11 := cz11_ BK394
          have hcz43_12 := cz12_ BK394
          have hcz44_0 := cz0_ BK395
          have hcz44_1 := cz1_ BK395
          have hcz44_2 := cz2_ BK395
          have hcz44_3 := cz3_ BK395
          have hcz44_4 := cz4_ BK395
          have hcz44_5 := cz5_ BK395
          have hcz44_6 := cz6_ BK395
          have hcz44_7 := cz7_ BK395
          have hcz44_8 := cz8_ BK395
          have hcz44_9 := cz9_ BK395
          have hcz44_10 := cz10_ BK395
          have hcz44_11 := cz11_ BK395
          have hcz44_12 := cz12_ BK395
          try go_wp2_with (first | ((with_reducible refine gate_callee (f := 34) rfl ?_); refine goesL_ (some 17) rfl rfl Tryz.func34 (by kernel_rfl) rfl #[.agg #[.int .i64 a0_0, .int .i64 a0_1, .int .i64 a0_2, .int .i64 a0_3, .int .i64 a0_4, .bool a0_5, .int .i64 a0_6, .int .i64 a0_7, .int .i64 a0_8, .int .i64 a0_9, .bool a0_10, .string a0_11, .int .i64 a0_12], .agg #[.int .i64 a1_0, .int .i64 a1_1, .int .i64 a1_2, .int .i64 a1_3, .int .i64 a1_4, .bool a1_5, .int .i64 a1_6, .int .i64 a1_7, .int .i64 a1_8, .int .i64 a1_9, .bool a1_10, .string a1_11, .int .i64 a1_12]] rfl args_ ?_; (with_reducible refine (impl_keepRules.calls kj2 a0_0 a0_1 a0_2 a0_3 a0_4 a0_5 a0_6 a0_7 a0_8 a0_9 a0_10 a0_11 a0_12 a1_0 a1_1 a1_2 a1_3 a1_4 a1_5 a1_6 a1_7 a1_8 a1_9 a1_10 a1_11 a1_12 false _ A18.out).mono ?_); rintro e w45 ⟨rfl, hb⟩; refine ⟨_, rfl, ?_⟩; have n0_ := Aside0.mk (lb_ BK394 hb); have n1_ := Aside0.mk (lb_ BK395 hb); have n2_ := Aside0.mk (below_step (bb2_ HB GE394 GE395) hb); clear BK394; clear BK395; clear HB; have BK394 := n0_; have BK395 := n1_; have HB := n2_; clear n0_ n1_ n2_; (try clear hb); (try clear hb2); (try clear hk); (try clear hi); have hcz46_0 := cz0_ BK395; have hcz46_1 := cz1_ BK395; have hcz46_2 := cz2_ BK395; have hcz46_3 := cz3_ BK395; have hcz46_4 := cz4_ BK395; have hcz46_5 := cz5_ BK395; have hcz46_6 := cz6_ BK395; have hcz46_7 := cz7_ BK395; have hcz46_8 := cz8_ BK395; have hcz46_9 := cz9_ BK395; have hcz46_10 := cz10_ BK395; have hcz46_11 := cz11_ BK395; have hcz46_12 := cz12_ BK395) | ((with_reducible refine gate_callee (f := 35) rfl ?_); refine goesL_ (some 20) rfl rfl Tryz.func35 (by kernel_rfl) rfl #[.agg #[.int .i64 a1_0, .int .i64 a1_1, .int .i64 a1_2, .int .i64 a1_3, .int .i64 a1_4, .bool a1_5, .int .i64 a1_6, .int .i64 a1_7, .int .i64 a1_8, .int .i64 a1_9, .bool a1_10, .string a1_11, .int .i64 a1_12]] rfl args_ ?_; (with_reducible refine (impl_Hand_moves.calls a1_0 a1_1 a1_2 a1_3 a1_4 a1_5 a1_6 a1_7 a1_8 a1_9 a1_10 a1_11 a1_12 true _ A24.out).mono ?_); rintro e w47 ⟨rfl, hb⟩; refine ⟨_, rfl, ?_⟩; have n0_ := Aside0.mk (lb_ BK394 hb); have n1_ := Aside0.mk (lb_ BK395 hb); have n2_ := Aside0.mk (below_step (bb2_ HB GE394 GE395) hb); clear BK394; clear BK395; clear HB; have BK394 := n0_; have BK395 := n1_; have HB := n2_; clear n0_ n1_ n2_; (try clear hb); (try clear hb2); (try clear hk); (try clear hi); have hcz48_0 := cz0_ BK394; have hcz48_1 := cz1_ BK394; have hcz48_2 := cz2_ BK394; have hcz48_3 := cz3_ BK394; have hcz48_4 := cz4_ BK394; have hcz48_5 := cz5_ BK394; have hcz48_6 := cz6_ BK394; have hcz48_7 := cz7_ BK394; have hcz48_8 := cz8_ BK394; have hcz48_9 := cz9_ BK394; have hcz48_10 := cz10_ BK394; have hcz48_11 := cz11_ BK394; have hcz48_12 := cz12_ BK394) | ((with_reducible refine gate_callee (f := 35) rfl ?_); refine goesL_ (some 24) rfl rfl Tryz.func35 (by kernel_rfl) rfl #[.agg #[.int .i64 a0_0, .int .i64 a0_1, .int .i64 a0_2, .int .i64 a0_3, .int .i64 a0_4, .bool a0_5, .int .i64 a0_6, .int .i64 a0_7, .int .i64 a0_8, .int .i64 a0_9, .bool a0_10, .string a0_11, .int .i64 a0_12]] rfl args_ ?_; (with_reducible refine (impl_Hand_moves.calls a0_0 a0_1 a0_2 a0_3 a0_4 a0_5 a0_6 a0_7 a0_8 a0_9 a0_10 a0_11 a0_12 true _ A26.out).mono ?_); rintro e w49 ⟨rfl, hb⟩; refine ⟨_, rfl, ?_⟩; have n0_ := Aside0.mk (lb_ BK394 hb); have n1_ := Aside0.mk (lb_ BK395 hb); have n2_ := Aside0.mk (below_step (bb2_ HB GE394 GE395) hb); clear BK394; clear BK395; clear HB; have BK394 := n0_; have BK395 := n1_; have HB := n2_; clear n0_ n1_ n2_; (try clear hb); (try clear hb2); (try clear hk); (try clear hi); have hcz50_0 := cz0_ BK394; have hcz50_1 := cz1_ BK394; have hcz50_2 := cz2_ BK394; have hcz50_3 := cz3_ BK394; have hcz50_4 := cz4_ BK394; have hcz50_5 := cz5_ BK394; have hcz50_6 := cz6_ BK394; have hcz50_7 := cz7_ BK394; have hcz50_8 := cz8_ BK394; have hcz50_9 := cz9_ BK394; have hcz50_10 := cz10_ BK394; have hcz50_11 := cz11_ BK394; have hcz50_12 := cz12_ BK394; have hcz51_0 := cz0_ BK395; have hcz51_1 := cz1_ BK395; have hcz51_2 := cz2_ BK395; have hcz51_3 := cz3_ BK395; have hcz51_4 := cz4_ BK395; have hcz51_5 := cz5_ BK395; have hcz51_6 := cz6_ BK395; have hcz51_7 := cz7_ BK395; have hcz51_8 := cz8_ BK395; have hcz51_9 := cz9_ BK395; have hcz51_10 := cz10_ BK395; have hcz51_11 := cz11_ BK395; have hcz51_12 := cz12_ BK395))
          have n0_ := Aside0.mk (blk_drew BK394.out)
          have n1_ := Aside0.mk (blk_drew BK395.out)
          have n2_ := Aside0.mk (below_drew1 HB.out)
          clear BK394
          clear BK395
          clear HB
          have BK394 := n0_
          have BK395 := n1_
          have HB := n2_
          clear n0_ n1_ n2_
          refine start_ (n := 14) (S := impl_BrokenRule.S0 gb395 gb394 a1_0 a1_1 a1_2 a1_3 a1_4 a1_6 a1_7 a1_8 a1_9 a1_12 a0_0 a0_1 a0_2 a0_3 a0_4 a0_6 a0_7 a0_8 a0_9 a0_12 a1_5 a1_10 a0_5 a0_10 a1_11 a0_11) (ds := []) #[false, false, false, false, false, false, false, false, false, false, false, false, false, false] (by kernel_rfl) rfl rfl (by repeat' (first | apply And.intro | exact (blk_cell BK395.out _).trans rfl | exact (blk_cell BK394.out _).trans rfl)) (fun hHeld => ?_); refine with_tabW impl_BrokenRule.tab11 impl_BrokenRule.bits11 (fun HT_ HW_ => ?_)
          generalize w49.drew = w52 at BK394 BK395 HB hHeld ⊢
          refine pu_ (i := 0) (N := some 33) (v := ?_) (a' := ?_) #[true, false, false, false, false, false, false, false, false, false, false, false, false, false] rfl rfl (Or.inl ⟨by rfl, ?_⟩) ?_ ?_
          rotate_left
          ·intro w'
           go_simp
           with_reducible rfl
          rotate_left
          ·simp only [Act.put, sA_, sB_, sC_, i64_w, i32_w]
           rfl
          refine pu_ (i := 2) (N := some 35) (v := ?_) (a' := ?_) #[true, false, true, false, false, false, false, false, false, false, false, false, false, false] rfl rfl (Or.inl ⟨by rfl, ?_⟩) ?_ ?_
          rotate_left
          ·intro w'
           go_simp
           with_reducible rfl
          rotate_left
          ·simp only [Act.put, sA_, sB_, sC_, i64_w, i32_w]
           rfl
          refine take_ (i := 1) (N := some 34) (v := ?_) (a' := ?_) #[true, true, true, false, false, false, false, false, false, false, false, false, false, false] rfl rfl (take_ofW HT_.out HW_.out (by kernel_rfl)) (fun _ _ _ h => h) (Or.inl ⟨by rfl, ?_⟩) hHeld ?_ ?_
          rotate_left
          ·rintro w' ⟨s0, s1, s2, s3, s4, s5, s6, s7, s8, s9, s10, s11, s12, s13, s14, s15, s16, s17, s18, s19, s20, s21, s22, s23, s24, s25⟩
           go_simp
           with_reducible rfl
          rotate_left
          ·simp only [Act.put, sA_, sB_, sC_, i64_w, i32_w]
           rfl
          refine take_ (i := 3) (N := some 36) (v := ?_) (a' := ?_) #[true, true, true, true, false, false, false, false, false, false, false, false, false, false] rfl rfl (take_ofW HT_.out HW_.out (by kernel_rfl)) (fun _ _ _ h => h) (Or.inl ⟨by rfl, ?_⟩) hHeld ?_ ?_
          rotate_left
          ·rintro w' ⟨s0, s1, s2, s3, s4, s5, s6, s7, s8, s9, s10, s11, s12, s13, s14, s15, s16, s17, s18, s19, s20, s21, s22, s23, s24, s25⟩
           go_simp
           with_reducible rfl
          rotate_left
          ·simp only [Act.put, sA_, sB_, sC_, i64_w, i32_w]
           rfl
          refine pu_ (i := 4) (N := some 37) (v := ?_) (a' := ?_) #[true, true, true, true, true, false, false, false, false, false, false, false, false, false] rfl rfl (Or.inl ⟨by rfl, ?_⟩) ?_ ?_
          rotate_left
          ·intro w'
           go_simp
           with_reducible rfl
          rotate_left
          ·simp only [Act.put, sA_, sB_, sC_, i64_w, i32_w]
           rfl
          refine pu_ (i := 5) (N := some 38) (v := ?_) (a' := ?_) #[true, true, true, true, true, true, false, false, false, false, false, false, false, false] rfl rfl (Or.inl ⟨by rfl, ?_⟩) ?_ ?_
          rotate_left
          ·intro w'
           go_simp
           with_reducible rfl
          rotate_left
          ·simp only [Act.put, sA_, sB_, sC_, i64_w, i32_w]
           rfl
          refine pu_ (i := 6) (N := some 39) (v := ?_) (a' := ?_) #[true, true, true, true, true, true, true, false, false, false, false, false, false, false] rfl rfl (Or.inl ⟨by rfl, ?_⟩) ?_ ?_
          rotate_left
          ·intro w'
           go_simp
           with_reducible rfl
          rotate_left
          ·simp only [Act.put, sA_, sB_, sC_, i64_w, i32_w]
           rfl
          refine pu_ (i := 8) (N := some 41) (v := ?_) (a' := ?_) #[true, true, true, true, true, true, true, false, true, false, false, false, false, false] rfl rfl (Or.inl ⟨by rfl, ?_⟩) ?_ ?_
          rotate_left
          ·intro w'
           go_simp
           with_reducible rfl
          rotate_left
          ·simp only [Act.put, sA_, sB_, sC_, i64_w, i32_w]
           rfl
          refine take_ (i := 7) (N := some 40) (v := ?_) (a' := ?_) #[true, true, true, true, true, true, true, true, true, false, false, false, false, false] rfl rfl (take_ofW HT_.out HW_.out (by kernel_rfl)) (fun _ _ _ h => h) (Or.inl ⟨by rfl, ?_⟩) hHeld ?_ ?_
          rotate_left
          ·rintro w' ⟨s0, s1, s2, s3, s4, s5, s6, s7, s8, s9, s10, s11, s12, s13, s14, s15, s16, s17, s18, s19, s20, s21, s22, s23, s24, s25⟩
           go_simp
           with_reducible rfl
          rotate_left
          ·simp only [Act.put, sA_, sB_, sC_, i64_w, i32_w]
           rfl
          refine take_ (i := 9) (N := some 42) (v := ?_) (a' := ?_) #[true, true, true, true, true, true, true, true, true, true, false, false, false, false] rfl rfl (take_ofW HT_.out HW_.out (by kernel_rfl)) (fun _ _ _ h => h) (Or.inl ⟨by rfl, ?_⟩) hHeld ?_ ?_
          rotate_left
          ·rintro w' ⟨s0, s1, s2, s3, s4, s5, s6, s7, s8, s9, s10, s11, s12, s13, s14, s15, s16, s17, s18, s19, s20, s21, s22, s23, s24, s25⟩
           go_simp
           with_reducible rfl
          rotate_left
          ·simp only [Act.put, sA_, sB_, sC_, i64_w, i32_w]
           rfl
          refine one_ (i := 10) (N := some 43) #[true, true, true, true, true, true, true, true, true, true, true, false, false, false] rfl rfl (one_of HT_.out (by kernel_rfl)) (by decide) (fun K hK => ?_)
          refine goes_ Tryz.func36 (by kernel_rfl) rfl #[.agg #[.int .i64 a0_6, .int .i64 a0_7]] (by rfl) rfl rfl args_ ?_
          with_reducible refine (impl_Orient_mirrored.calls a0_6 a0_7 t401 t402 _ A40.out).mono ?_
          rintro e w53 ⟨rfl, hb⟩
          refine ⟨_, rfl, ?_⟩
          have n0_ := Aside0.mk (lb_ BK394 hb)
          have n1_ := Aside0.mk (lb_ BK395 hb)
          have n2_ := Aside0.mk (below_step (bb2_ HB GE394 GE395) hb)
          clear BK394
          clear BK395
          clear HB
          have BK394 := n0_
          have BK395 := n1_
          have HB := n2_
          clear n0_ n1_ n2_
          (try clear hb)
          (try clear hb2)
          (try clear hk)
          (try clear hi)
          refine hK.out _ _ (by repeat' (first | apply And.intro | exact (blk_cell BK395.out _).trans rfl | exact (blk_cell BK394.out _).trans rfl)) (fun hHeld => ?_)
          clear hK K
          refine norm_ (a' := ?_) ?_ ?_
          rotate_left
          ·show Act.put _ (some 43) _ = _
           simp only [Act.put, sA_, sB_, sC_, i64_w, i32_w]
           rfl
          refine pu_ (i := 11) (N := some 44) (v := ?_) (a' := ?_) #[true, true, true, true, true, true, true, true, true, true, true, true, false, false] rfl rfl (Or.inl ⟨by rfl, ?_⟩) ?_ ?_
          rotate_left
          ·intro w'
           go_simp
           with_reducible rfl
          rotate_left
          ·simp only [Act.put, sA_, sB_, sC_, i64_w, i32_w]
           rfl
          refine pu_ (i := 12) (N := some 45) (v := ?_) (a' := ?_) #[true, true, true, true, true, true, true, true, true, true, true, true, true, false] rfl rfl (Or.inl ⟨by rfl, ?_⟩) ?_ ?_
          rotate_left
          ·intro w'
           go_simp
           with_reducible rfl
          rotate_left
          ·simp only [Act.put, sA_, sB_, sC_, i64_w, i32_w]
           rfl
          refine pu_ (i := 13) (N := some 32) (v := ?_) (a' := ?_) #[true, true, true, true, true, true, true, true, true, true, true, true, true, true] rfl rfl (Or.inl ⟨by rfl, ?_⟩) ?_ ?_
          rotate_left
          ·intro w'
           go_simp
           with_reducible rfl
          rotate_left
          ·simp only [Act.put, sA_, sB_, sC_, i64_w, i32_w]
           rfl
          refine done_ (done_of HT_.out (by kernel_rfl)) ?_
          try go_wp2
          go_ret2
          exact ⟨by first | rfl | (simp [errW_none, errW_some] <;> rfl) | (simp [*, errW_none, errW_some] <;> rfl), bb2_ HB GE394 GE395⟩
         ·rw [if_neg c41] at H
          have c41b0 : (!(a1_6 == t401) || (!(a1_7 == t402))) = false := by simpa using c41
          clear c41
          simp only [Option.some.injEq, Prod.mk.injEq] at H
          obtain ⟨rfl, rfl⟩ := H
          have hnb54 := NB394_395.out
          have hnc54 := NB395_394.out
          have hcz55_0 := cz0_ BK394
          have hcz55_1 := cz1_ BK394
          have hcz55_2 := cz2_ BK394
          have hcz55_3 := cz3_ BK394
          have hcz55_4 := cz4_ BK394
          have hcz55_5 := cz5_ BK394
          have hcz55_6 := cz6_ BK394
          have hcz55_7 := cz7_ BK394
          have hcz55_8 := cz8_ BK394
          have hcz55_9 := cz9_ BK394
          have hcz55_10 := cz10_ BK394
          have hcz55_11 := cz11_ BK394
          have hcz55_12 := cz12_ BK394
          have hcz56_0 := cz0_ BK395
          have hcz56_1 := cz1_ BK395
          have hcz56_2 := cz2_ BK395
          have hcz56_3 := cz3_ BK395
          have hcz56_4 := cz4_ BK395
          have hcz56_5 := cz5_ BK395
          have hcz56_6 := cz6_ BK395
          have hcz56_7 := cz7_ BK395
          have hcz56_8 := cz8_ BK395
          have hcz56_9 := cz9_ BK395
          have hcz56_10 := cz10_ BK395
          have hcz56_11 := cz11_ BK395
          have hcz56_12 := cz12_ BK395
          try go_wp2_with (first | ((with_reducible refine gate_callee (f := 34) rfl ?_); refine goesL_ (some 17) rfl rfl Tryz.func34 (by kernel_rfl) rfl #[.agg #[.int .i64 a0_0, .int .i64 a0_1, .int .i64 a0_2, .int .i64 a0_3, .int .i64 a0_4, .bool a0_5, .int .i64 a0_6, .int .i64 a0_7, .int .i64 a0_8, .int .i64 a0_9, .bool a0_10, .string a0_11, .int .i64 a0_12], .agg #[.int .i64 a1_0, .int .i64 a1_1, .int .i64 a1_2, .int .i64 a1_3, .int .i64 a1_4, .bool a1_5, .int .i64 a1_6, .int .i64 a1_7, .int .i64 a1_8, .int .i64 a1_9, .bool a1_10, .string a1_11, .int .i64 a1_12]] rfl args_ ?_; (with_reducible refine (impl_keepRules.calls kj2 a0_0 a0_1 a0_2 a0_3 a0_4 a0_5 a0_6 a0_7 a0_8 a0_9 a0_10 a0_11 a0_12 a1_0 a1_1 a1_2 a1_3 a1_4 a1_5 a1_6 a1_7 a1_8 a1_9 a1_10 a1_11 a1_12 false _ A18.out).mono ?_); rintro e w57 ⟨rfl, hb⟩; refine ⟨_, rfl, ?_⟩; have n0_ := Aside0.mk (lb_ BK394 hb); have n1_ := Aside0.mk (lb_ BK395 hb); have n2_ := Aside0.mk (below_step (bb2_ HB GE394 GE395) hb); clear BK394; clear BK395; clear HB; have BK394 := n0_; have BK395 := n1_; have HB := n2_; clear n0_ n1_ n2_; (try clear hb); (try clear hb2); (try clear hk); (try clear hi); have hcz58_0 := cz0_ BK395; have hcz58_1 := cz1_ BK395; have hcz58_2 := cz2_ BK395; have hcz58_3 := cz3_ BK395; have hcz58_4 := cz4_ BK395; have hcz58_5 := cz5_ BK395; have hcz58_6 := cz6_ BK395; have hcz58_7 := cz7_ BK395; have hcz58_8 := cz8_ BK395; have hcz58_9 := cz9_ BK395; have hcz58_10 := cz10_ BK395; have hcz58_11 := cz11_ BK395; have hcz58_12 := cz12_ BK395) | ((with_reducible refine gate_callee (f := 35) rfl ?_); refine goesL_ (some 20) rfl rfl Tryz.func35 (by kernel_rfl) rfl #[.agg #[.int .i64 a1_0, .int .i64 a1_1, .int .i64 a1_2, .int .i64 a1_3, .int .i64 a1_4, .bool a1_5, .int .i64 a1_6, .int .i64 a1_7, .int .i64 a1_8, .int .i64 a1_9, .bool a1_10, .string a1_11, .int .i64 a1_12]] rfl args_ ?_; (with_reducible refine (impl_Hand_moves.calls a1_0 a1_1 a1_2 a1_3 a1_4 a1_5 a1_6 a1_7 a1_8 a1_9 a1_10 a1_11 a1_12 true _ A24.out).mono ?_); rintro e w59 ⟨rfl, hb⟩; refine ⟨_, rfl, ?_⟩; have n0_ := Aside0.mk (lb_ BK394 hb); have n1_ := Aside0.mk (lb_ BK395 hb); have n2_ := Aside0.mk (below_step (bb2_ HB GE394 GE395) hb); clear BK394; clear BK395; clear HB; have BK394 := n0_; have BK395 := n1_; have HB := n2_; clear n0_ n1_ n2_; (try clear hb); (try clear hb2); (try clear hk); (try clear hi); have hcz60_0 := cz0_ BK394; have hcz60_1 := cz1_ BK394; have hcz60_2 := cz2_ BK394; have hcz60_3 := cz3_ BK394; have hcz60_4 := cz4_ BK394; have hcz60_5 := cz5_ BK394; have hcz60_6 := cz6_ BK394; have hcz60_7 := cz7_ BK394; have hcz60_8 := cz8_ BK394; have hcz60_9 := cz9_ BK394; have hcz60_10 := cz10_ BK394; have hcz60_11 := cz11_ BK394; have hcz60_12 := cz12_ BK394) | ((with_reducible refine gate_callee (f := 35) rfl ?_); refine goesL_ (some 24) rfl rfl Tryz.func35 (by kernel_rfl) rfl #[.agg #[.int .i64 a0_0, .int .i64 a0_1, .int .i64 a0_2, .int .i64 a0_3, .int .i64 a0_4, .bool a0_5, .int .i64 a0_6, .int .i64 a0_7, .int .i64 a0_8, .int .i64 a0_9, .bool a0_10, .string a0_11, .int .i64 a0_12]] rfl args_ ?_; (with_reducible refine (impl_Hand_moves.calls a0_0 a0_1 a0_2 a0_3 a0_4 a0_5 a0_6 a0_7 a0_8 a0_9 a0_10 a0_11 a0_12 true _ A26.out).mono ?_); rintro e w61 ⟨rfl, hb⟩; refine ⟨_, rfl, ?_⟩; have n0_ := Aside0.mk (lb_ BK394 hb); have n1_ := Aside0.mk (lb_ BK395 hb); have n2_ := Aside0.mk (below_step (bb2_ HB GE394 GE395) hb); clear BK394; clear BK395; clear HB; have BK394 := n0_; have BK395 := n1_; have HB := n2_; clear n0_ n1_ n2_; (try clear hb); (try clear hb2); (try clear hk); (try clear hi); have hcz62_0 := cz0_ BK394; have hcz62_1 := cz1_ BK394; have hcz62_2 := cz2_ BK394; have hcz62_3 := cz3_ BK394; have hcz62_4 := cz4_ BK394; have hcz62_5 := cz5_ BK394; have hcz62_6 := cz6_ BK394; have hcz62_7 := cz7_ BK394; have hcz62_8 := cz8_ BK394; have hcz62_9 := cz9_ BK394; have hcz62_10 := cz10_ BK394; have hcz62_11 := cz11_ BK394; have hcz62_12 := cz12_ BK394; have hcz63_0 := cz0_ BK395; have hcz63_1 := cz1_ BK395; have hcz63_2 := cz2_ BK395; have hcz63_3 := cz3_ BK395; have hcz63_4 := cz4_ BK395; have hcz63_5 := cz5_ BK395; have hcz63_6 := cz6_ BK395; have hcz63_7 := cz7_ BK395; have hcz63_8 := cz8_ BK395; have hcz63_9 := cz9_ BK395; have hcz63_10 := cz10_ BK395; have hcz63_11 := cz11_ BK395; have hcz63_12 := cz12_ BK395))
          have n0_ := Aside0.mk (blk_drew BK394.out)
          have n1_ := Aside0.mk (blk_drew BK395.out)
          have n2_ := Aside0.mk (below_drew1 HB.out)
          clear BK394
          clear BK395
          clear HB
          have BK394 := n0_
          have BK395 := n1_
          have HB := n2_
          clear n0_ n1_ n2_
          refine start_ (n := 14) (S := impl_BrokenRule.S0 gb395 gb394 a1_0 a1_1 a1_2 a1_3 a1_4 a1_6 a1_7 a1_8 a1_9 a1_12 a0_0 a0_1 a0_2 a0_3 a0_4 a0_6 a0_7 a0_8 a0_9 a0_12 a1_5 a1_10 a0_5 a0_10 a1_11 a0_11) (ds := []) #[false, false, false, false, false, false, false, false, false, false, false, false, false, false] (by kernel_rfl) rfl rfl (by repeat' (first | apply And.intro | exact (blk_cell BK395.out _).trans rfl | exact (blk_cell BK394.out _).trans rfl)) (fun hHeld => ?_); refine with_tabW impl_BrokenRule.tab11 impl_BrokenRule.bits11 (fun HT_ HW_ => ?_)
          generalize w61.drew = w64 at BK394 BK395 HB hHeld ⊢
          refine pu_ (i := 0) (N := some 33) (v := ?_) (a' := ?_) #[true, false, false, false, false, false, false, false, false, false, false, false, false, false] rfl rfl (Or.inl ⟨by rfl, ?_⟩) ?_ ?_
          rotate_left
          ·intro w'
           go_simp
           with_reducible rfl
          rotate_left
          ·simp only [Act.put, sA_, sB_, sC_, i64_w, i32_w]
           rfl
          refine pu_ (i := 2) (N := some 35) (v := ?_) (a' := ?_) #[true, false, true, false, false, false, false, false, false, false, false, false, false, false] rfl rfl (Or.inl ⟨by rfl, ?_⟩) ?_ ?_
          rotate_left
          ·intro w'
           go_simp
           with_reducible rfl
          rotate_left
          ·simp only [Act.put, sA_, sB_, sC_, i64_w, i32_w]
           rfl
          refine take_ (i := 1) (N := some 34) (v := ?_) (a' := ?_) #[true, true, true, false, false, false, false, false, false, false, false, false, false, false] rfl rfl (take_ofW HT_.out HW_.out (by kernel_rfl)) (fun _ _ _ h => h) (Or.inl ⟨by rfl, ?_⟩) hHeld ?_ ?_
          rotate_left
          ·rintro w' ⟨s0, s1, s2, s3, s4, s5, s6, s7, s8, s9, s10, s11, s12, s13, s14, s15, s16, s17, s18, s19, s20, s21, s22, s23, s24, s25⟩
           go_simp
           with_reducible rfl
          rotate_left
          ·simp only [Act.put, sA_, sB_, sC_, i64_w, i32_w]
           rfl
          refine take_ (i := 3) (N := some 36) (v := ?_) (a' := ?_) #[true, true, true, true, false, false, false, false, false, false, false, false, false, false] rfl rfl (take_ofW HT_.out HW_.out (by kernel_rfl)) (fun _ _ _ h => h) (Or.inl ⟨by rfl, ?_⟩) hHeld ?_ ?_
          rotate_left
          ·rintro w' ⟨s0, s1, s2, s3, s4, s5, s6, s7, s8, s9, s10, s11, s12, s13, s14, s15, s16, s17, s18, s19, s20, s21, s22, s23, s24, s25⟩
           go_simp
           with_reducible rfl
          rotate_left
          ·simp only [Act.put, sA_, sB_, sC_, i64_w, i32_w]
           rfl
          refine pu_ (i := 4) (N := some 37) (v := ?_) (a' := ?_) #[true, true, true, true, true, false, false, false, false, false, false, false, false, false] rfl rfl (Or.inl ⟨by rfl, ?_⟩) ?_ ?_
          rotate_left
          ·intro w'
           go_simp
           with_reducible rfl
          rotate_left
          ·simp only [Act.put, sA_, sB_, sC_, i64_w, i32_w]
           rfl
          refine pu_ (i := 5) (N := some 38) (v := ?_) (a' := ?_) #[true, true, true, true, true, true, false, false, false, false, false, false, false, false] rfl rfl (Or.inl ⟨by rfl, ?_⟩) ?_ ?_
          rotate_left
          ·intro w'
           go_simp
           with_reducible rfl
          rotate_left
          ·simp only [Act.put, sA_, sB_, sC_, i64_w, i32_w]
           rfl
          refine pu_ (i := 6) (N := some 39) (v := ?_) (a' := ?_) #[true, true, true, true, true, true, true, false, false, false, false, false, false, false] rfl rfl (Or.inl ⟨by rfl, ?_⟩) ?_ ?_
          rotate_left
          ·intro w'
           go_simp
           with_reducible rfl
          rotate_left
          ·simp only [Act.put, sA_, sB_, sC_, i64_w, i32_w]
           rfl
          refine pu_ (i := 8) (N := some 41) (v := ?_) (a' := ?_) #[true, true, true, true, true, true, true, false, true, false, false, false, false, false] rfl rfl (Or.inl ⟨by rfl, ?_⟩) ?_ ?_
          rotate_left
          ·intro w'
           go_simp
           with_reducible rfl
          rotate_left
          ·simp only [Act.put, sA_, sB_, sC_, i64_w, i32_w]
           rfl
          refine take_ (i := 7) (N := some 40) (v := ?_) (a' := ?_) #[true, true, true, true, true, true, true, true, true, false, false, false, false, false] rfl rfl (take_ofW HT_.out HW_.out (by kernel_rfl)) (fun _ _ _ h => h) (Or.inl ⟨by rfl, ?_⟩) hHeld ?_ ?_
          rotate_left
          ·rintro w' ⟨s0, s1, s2, s3, s4, s5, s6, s7, s8, s9, s10, s11, s12, s13, s14, s15, s16, s17, s18, s19, s20, s21, s22, s23, s24, s25⟩
           go_simp
           with_reducible rfl
          rotate_left
          ·simp only [Act.put, sA_, sB_, sC_, i64_w, i32_w]
           rfl
          refine take_ (i := 9) (N := some 42) (v := ?_) (a' := ?_) #[true, true, true, true, true, true, true, true, true, true, false, false, false, false] rfl rfl (take_ofW HT_.out HW_.out (by kernel_rfl)) (fun _ _ _ h => h) (Or.inl ⟨by rfl, ?_⟩) hHeld ?_ ?_
          rotate_left
          ·rintro w' ⟨s0, s1, s2, s3, s4, s5, s6, s7, s8, s9, s10, s11, s12, s13, s14, s15, s16, s17, s18, s19, s20, s21, s22, s23, s24, s25⟩
           go_simp
           with_reducible rfl
          rotate_left
          ·simp only [Act.put, sA_, sB_, sC_, i64_w, i32_w]
           rfl
          refine one_ (i := 10) (N := some 43) #[true, true, true, true, true, true, true, true, true, true, true, false, false, false] rfl rfl (one_of HT_.out (by kernel_rfl)) (by decide) (fun K hK => ?_)
          refine goes_ Tryz.func36 (by kernel_rfl) rfl #[.agg #[.int .i64 a0_6, .int .i64 a0_7]] (by rfl) rfl rfl args_ ?_
          with_reducible refine (impl_Orient_mirrored.calls a0_6 a0_7 t401 t402 _ A40.out).mono ?_
          rintro e w65 ⟨rfl, hb⟩
          refine ⟨_, rfl, ?_⟩
          have n0_ := Aside0.mk (lb_ BK394 hb)
          have n1_ := Aside0.mk (lb_ BK395 hb)
          have n2_ := Aside0.mk (below_step (bb2_ HB GE394 GE395) hb)
          clear BK394
          clear BK395
          clear HB
          have BK394 := n0_
          have BK395 := n1_
          have HB := n2_
          clear n0_ n1_ n2_
          (try clear hb)
          (try clear hb2)
          (try clear hk)
          (try clear hi)
          refine hK.out _ _ (by repeat' (first | apply And.intro | exact (blk_cell BK395.out _).trans rfl | exact (blk_cell BK394.out _).trans rfl)) (fun hHeld => ?_)
          clear hK K
          refine norm_ (a' := ?_) ?_ ?_
          rotate_left
          ·show Act.put _ (some 43) _ = _
           simp only [Act.put, sA_, sB_, sC_, i64_w, i32_w]
           rfl
          refine pu_ (i := 11) (N := some 44) (v := ?_) (a' := ?_) #[true, true, true, true, true, true, true, true, true, true, true, true, false, false] rfl rfl (Or.inl ⟨by rfl, ?_⟩) ?_ ?_
          rotate_left
          ·intro w'
           go_simp
           with_reducible rfl
          rotate_left
          ·simp only [Act.put, sA_, sB_, sC_, i64_w, i32_w]
           rfl
          refine pu_ (i := 12) (N := some 45) (v := ?_) (a' := ?_) #[true, true, true, true, true, true, true, true, true, true, true, true, true, false] rfl rfl (Or.inl ⟨by rfl, ?_⟩) ?_ ?_
          rotate_left
          ·intro w'
           go_simp
           with_reducible rfl
          rotate_left
          ·simp only [Act.put, sA_, sB_, sC_, i64_w, i32_w]
           rfl
          refine pu_ (i := 13) (N := some 32) (v := ?_) (a' := ?_) #[true, true, true, true, true, true, true, true, true, true, true, true, true, true] rfl rfl (Or.inl ⟨by rfl, ?_⟩) ?_ ?_
          rotate_left
          ·intro w'
           go_simp
           with_reducible rfl
          rotate_left
          ·simp only [Act.put, sA_, sB_, sC_, i64_w, i32_w]
           rfl
          refine done_ (done_of HT_.out (by kernel_rfl)) ?_
          try go_wp2
          go_ret2
          exact ⟨by first | rfl | (simp [errW_none, errW_some] <;> rfl) | (simp [*, errW_none, errW_some] <;> rfl), bb2_ HB GE394 GE395⟩
        ·rw [if_neg c39] at H
         have c39b0 : (!(a1_6 == a0_6) || (!(a1_7 == a0_7))) = false := by simpa using c39
         clear c39
         simp only [Option.some.injEq, Prod.mk.injEq] at H
         obtain ⟨rfl, rfl⟩ := H
         have hnb66 := NB394_395.out
         have hnc66 := NB395_394.out
         have hcz67_0 := cz0_ BK394
         have hcz67_1 := cz1_ BK394
         have hcz67_2 := cz2_ BK394
         have hcz67_3 := cz3_ BK394
         have hcz67_4 := cz4_ BK394
         have hcz67_5 := cz5_ BK394
         have hcz67_6 := cz6_ BK394
         have hcz67_7 := cz7_ BK394
         have hcz67_8 := cz8_ BK394
         have hcz67_9 := cz9_ BK394
         have hcz67_10 := cz10_ BK394
         have hcz67_11 := cz11_ BK394
         have hcz67_12 := cz12_ BK394
         have hcz68_0 := cz0_ BK395
         have hcz68_1 := cz1_ BK395
         have hcz68_2 := cz2_ BK395
         have hcz68_3 := cz3_ BK395
         have hcz68_4 := cz4_ BK395
         have hcz68_5 := cz5_ BK395
         have hcz68_6 := cz6_ BK395
         have hcz68_7 := cz7_ BK395
         have hcz68_8 := cz8_ BK395
         have hcz68_9 := cz9_ BK395
         have hcz68_10 := cz10_ BK395
         have hcz68_11 := cz11_ BK395
         have hcz68_12 := cz12_ BK395
         try go_wp2_with (first | ((with_reducible refine gate_callee (f := 34) rfl ?_); refine goesL_ (some 17) rfl rfl Tryz.func34 (by kernel_rfl) rfl #[.agg #[.int .i64 a0_0, .int .i64 a0_1, .int .i64 a0_2, .int .i64 a0_3, .int .i64 a0_4, .bool a0_5, .int .i64 a0_6, .int .i64 a0_7, .int .i64 a0_8, .int .i64 a0_9, .bool a0_10, .string a0_11, .int .i64 a0_12], .agg #[.int .i64 a1_0, .int .i64 a1_1, .int .i64 a1_2, .int .i64 a1_3, .int .i64 a1_4, .bool a1_5, .int .i64 a1_6, .int .i64 a1_7, .int .i64 a1_8, .int .i64 a1_9, .bool a1_10, .string a1_11, .int .i64 a1_12]] rfl args_ ?_; (with_reducible refine (impl_keepRules.calls kj2 a0_0 a0_1 a0_2 a0_3 a0_4 a0_5 a0_6 a0_7 a0_8 a0_9 a0_10 a0_11 a0_12 a1_0 a1_1 a1_2 a1_3 a1_4 a1_5 a1_6 a1_7 a1_8 a1_9 a1_10 a1_11 a1_12 false _ A18.out).mono ?_); rintro e w69 ⟨rfl, hb⟩; refine ⟨_, rfl, ?_⟩; have n0_ := Aside0.mk (lb_ BK394 hb); have n1_ := Aside0.mk (lb_ BK395 hb); have n2_ := Aside0.mk (below_step (bb2_ HB GE394 GE395) hb); clear BK394; clear BK395; clear HB; have BK394 := n0_; have BK395 := n1_; have HB := n2_; clear n0_ n1_ n2_; (try clear hb); (try clear hb2); (try clear hk); (try clear hi); have hcz70_0 := cz0_ BK395; have hcz70_1 := cz1_ BK395; have hcz70_2 := cz2_ BK395; have hcz70_3 := cz3_ BK395; have hcz70_4 := cz4_ BK395; have hcz70_5 := cz5_ BK395; have hcz70_6 := cz6_ BK395; have hcz70_7 := cz7_ BK395; have hcz70_8 := cz8_ BK395; have hcz70_9 := cz9_ BK395; have hcz70_10 := cz10_ BK395; have hcz70_11 := cz11_ BK395; have hcz70_12 := cz12_ BK395) | ((with_reducible refine gate_callee (f := 35) rfl ?_); refine goesL_ (some 20) rfl rfl Tryz.func35 (by kernel_rfl) rfl #[.agg #[.int .i64 a1_0, .int .i64 a1_1, .int .i64 a1_2, .int .i64 a1_3, .int .i64 a1_4, .bool a1_5, .int .i64 a1_6, .int .i64 a1_7, .int .i64 a1_8, .int .i64 a1_9, .bool a1_10, .string a1_11, .int .i64 a1_12]] rfl args_ ?_; (with_reducible refine (impl_Hand_moves.calls a1_0 a1_1 a1_2 a1_3 a1_4 a1_5 a1_6 a1_7 a1_8 a1_9 a1_10 a1_11 a1_12 true _ A24.out).mono ?_); rintro e w71 ⟨rfl, hb⟩; refine ⟨_, rfl, ?_⟩; have n0_ := Aside0.mk (lb_ BK394 hb); have n1_ := Aside0.mk (lb_ BK395 hb); have n2_ := Aside0.mk (below_step (bb2_ HB GE394 GE395) hb); clear BK394; clear BK395; clear HB; have BK394 := n0_; have BK395 := n1_; have HB := n2_; clear n0_ n1_ n2_; (try clear hb); (try clear hb2); (try clear hk); (try clear hi); have hcz72_0 := cz0_ BK394; have hcz72_1 := cz1_ BK394; have hcz72_2 := cz2_ BK394; have hcz72_3 := cz3_ BK394; have hcz72_4 := cz4_ BK394; have hcz72_5 := cz5_ BK394; have hcz72_6 := cz6_ BK394; have hcz72_7 := cz7_ BK394; have hcz72_8 := cz8_ BK394; have hcz72_9 := cz9_ BK394; have hcz72_10 := cz10_ BK394; have hcz72_11 := cz11_ BK394; have hcz72_12 := cz12_ BK394) | ((with_reducible refine gate_callee (f := 35) rfl ?_); refine goesL_ (some 24) rfl rfl Tryz.func35 (by kernel_rfl) rfl #[.agg #[.int .i64 a0_0, .int .i64 a0_1, .int .i64 a0_2, .int .i64 a0_3, .int .i64 a0_4, .bool a0_5, .int .i64 a0_6, .int .i64 a0_7, .int .i64 a0_8, .int .i64 a0_9, .bool a0_10, .string a0_11, .int .i64 a0_12]] rfl args_ ?_; (with_reducible refine (impl_Hand_moves.calls a0_0 a0_1 a0_2 a0_3 a0_4 a0_5 a0_6 a0_7 a0_8 a0_9 a0_10 a0_11 a0_12 true _ A26.out).mono ?_); rintro e w73 ⟨rfl, hb⟩; refine ⟨_, rfl, ?_⟩; have n0_ := Aside0.mk (lb_ BK394 hb); have n1_ := Aside0.mk (lb_ BK395 hb); have n2_ := Aside0.mk (below_step (bb2_ HB GE394 GE395) hb); clear BK394; clear BK395; clear HB; have BK394 := n0_; have BK395 := n1_; have HB := n2_; clear n0_ n1_ n2_; (try clear hb); (try clear hb2); (try clear hk); (try clear hi); have hcz74_0 := cz0_ BK394; have hcz74_1 := cz1_ BK394; have hcz74_2 := cz2_ BK394; have hcz74_3 := cz3_ BK394; have hcz74_4 := cz4_ BK394; have hcz74_5 := cz5_ BK394; have hcz74_6 := cz6_ BK394; have hcz74_7 := cz7_ BK394; have hcz74_8 := cz8_ BK394; have hcz74_9 := cz9_ BK394; have hcz74_10 := cz10_ BK394; have hcz74_11 := cz11_ BK394; have hcz74_12 := cz12_ BK394; have hcz75_0 := cz0_ BK395; have hcz75_1 := cz1_ BK395; have hcz75_2 := cz2_ BK395; have hcz75_3 := cz3_ BK395; have hcz75_4 := cz4_ BK395; have hcz75_5 := cz5_ BK395; have hcz75_6 := cz6_ BK395; have hcz75_7 := cz7_ BK395; have hcz75_8 := cz8_ BK395; have hcz75_9 := cz9_ BK395; have hcz75_10 := cz10_ BK395; have hcz75_11 := cz11_ BK395; have hcz75_12 := cz12_ BK395))
         have n0_ := Aside0.mk (blk_drew BK394.out)
         have n1_ := Aside0.mk (blk_drew BK395.out)
         have n2_ := Aside0.mk (below_drew1 HB.out)
         clear BK394
         clear BK395
         clear HB
         have BK394 := n0_
         have BK395 := n1_
         have HB := n2_
         clear n0_ n1_ n2_
         refine start_ (n := 14) (S := impl_BrokenRule.S0 gb395 gb394 a1_0 a1_1 a1_2 a1_3 a1_4 a1_6 a1_7 a1_8 a1_9 a1_12 a0_0 a0_1 a0_2 a0_3 a0_4 a0_6 a0_7 a0_8 a0_9 a0_12 a1_5 a1_10 a0_5 a0_10 a1_11 a0_11) (ds := []) #[false, false, false, false, false, false, false, false, false, false, false, false, false, false] (by kernel_rfl) rfl rfl (by repeat' (first | apply And.intro | exact (blk_cell BK395.out _).trans rfl | exact (blk_cell BK394.out _).trans rfl)) (fun hHeld => ?_); refine with_tabW impl_BrokenRule.tab11 impl_BrokenRule.bits11 (fun HT_ HW_ => ?_)
         generalize w73.drew = w76 at BK394 BK395 HB hHeld ⊢
         refine pu_ (i := 0) (N := some 33) (v := ?_) (a' := ?_) #[true, false, false, false, false, false, false, false, false, false, false, false, false, false] rfl rfl (Or.inl ⟨by rfl, ?_⟩) ?_ ?_
         rotate_left
         ·intro w'
          go_simp
          with_reducible rfl
         rotate_left
         ·simp only [Act.put, sA_, sB_, sC_, i64_w, i32_w]
          rfl
         refine pu_ (i := 2) (N := some 35) (v := ?_) (a' := ?_) #[true, false, true, false, false, false, false, false, false, false, false, false, false, false] rfl rfl (Or.inl ⟨by rfl, ?_⟩) ?_ ?_
         rotate_left
         ·intro w'
          go_simp
          with_reducible rfl
         rotate_left
         ·simp only [Act.put, sA_, sB_, sC_, i64_w, i32_w]
          rfl
         refine take_ (i := 1) (N := some 34) (v := ?_) (a' := ?_) #[true, true, true, false, false, false, false, false, false, false, false, false, false, false] rfl rfl (take_ofW HT_.out HW_.out (by kernel_rfl)) (fun _ _ _ h => h) (Or.inl ⟨by rfl, ?_⟩) hHeld ?_ ?_
         rotate_left
         ·rintro w' ⟨s0, s1, s2, s3, s4, s5, s6, s7, s8, s9, s10, s11, s12, s13, s14, s15, s16, s17, s18, s19, s20, s21, s22, s23, s24, s25⟩
          go_simp
          with_reducible rfl
         rotate_left
         ·simp only [Act.put, sA_, sB_, sC_, i64_w, i32_w]
          rfl
         refine take_ (i := 3) (N := some 36) (v := ?_) (a' := ?_) #[true, true, true, true, false, false, false, false, false, false, false, false, false, false] rfl rfl (take_ofW HT_.out HW_.out (by kernel_rfl)) (fun _ _ _ h => h) (Or.inl ⟨by rfl, ?_⟩) hHeld ?_ ?_
         rotate_left
         ·rintro w' ⟨s0, s1, s2, s3, s4, s5, s6, s7, s8, s9, s10, s11, s12, s13, s14, s15, s16, s17, s18, s19, s20, s21, s22, s23, s24, s25⟩
          go_simp
          with_reducible rfl
         rotate_left
         ·simp only [Act.put, sA_, sB_, sC_, i64_w, i32_w]
          rfl
         refine pu_ (i := 4) (N := some 37) (v := ?_) (a' := ?_) #[true, true, true, true, true, false, false, false, false, false, false, false, false, false] rfl rfl (Or.inl ⟨by rfl, ?_⟩) ?_ ?_
         rotate_left
         ·intro w'
          go_simp
          with_reducible rfl
         rotate_left
         ·simp only [Act.put, sA_, sB_, sC_, i64_w, i32_w]
          rfl
         refine pu_ (i := 5) (N := some 38) (v := ?_) (a' := ?_) #[true, true, true, true, true, true, false, false, false, false, false, false, false, false] rfl rfl (Or.inl ⟨by rfl, ?_⟩) ?_ ?_
         rotate_left
         ·intro w'
          go_simp
          with_reducible rfl
         rotate_left
         ·simp only [Act.put, sA_, sB_, sC_, i64_w, i32_w]
          rfl
         refine pure_ (i := 6) (N := some 39) (v := undef) (a' := ?_) #[true, true, true, true, true, true, true, false, false, false, false, false, false, false] rfl rfl (any_of HT_.out (by kernel_rfl)) (fun _ _ _ h => h) (Or.inr ⟨by rfl, rfl⟩) ?_ ?_
         rotate_left
         ·simp only [Act.put, sA_, sB_, sC_, i64_w, i32_w]
          rfl
         refine pure_ (i := 7) (N := some 40) (v := undef) (a' := ?_) #[true, true, true, true, true, true, true, true, false, false, false, false, false, false] rfl rfl (any_of HT_.out (by kernel_rfl)) (fun _ _ _ h => h) (Or.inr ⟨by rfl, rfl⟩) ?_ ?_
         rotate_left
         ·simp only [Act.put, sA_, sB_, sC_, i64_w, i32_w]
          rfl
         refine pure_ (i := 8) (N := some 41) (v := undef) (a' := ?_) #[true, true, true, true, true, true, true, true, true, false, false, false, false, false] rfl rfl (any_of HT_.out (by kernel_rfl)) (fun _ _ _ h => h) (Or.inr ⟨by rfl, rfl⟩) ?_ ?_
         rotate_left
         ·simp only [Act.put, sA_, sB_, sC_, i64_w, i32_w]
          rfl
         refine pure_ (i := 9) (N := some 42) (v := undef) (a' := ?_) #[true, true, true, true, true, true, true, true, true, true, false, false, false, false] rfl rfl (any_of HT_.out (by kernel_rfl)) (fun _ _ _ h => h) (Or.inr ⟨by rfl, rfl⟩) ?_ ?_
         rotate_left
         ·simp only [Act.put, sA_, sB_, sC_, i64_w, i32_w]
          rfl
         refine pure_ (i := 10) (N := some 43) (v := undef) (a' := ?_) #[true, true, true, true, true, true, true, true, true, true, true, false, false, false] rfl rfl (any_of HT_.out (by kernel_rfl)) (fun _ _ _ h => h) (Or.inr ⟨by rfl, rfl⟩) ?_ ?_
         rotate_left
         ·simp only [Act.put, sA_, sB_, sC_, i64_w, i32_w]
          rfl
         refine pure_ (i := 11) (N := some 44) (v := undef) (a' := ?_) #[true, true, true, true, true, true, true, true, true, true, true, true, false, false] rfl rfl (any_of HT_.out (by kernel_rfl)) (fun _ _ _ h => h) (Or.inr ⟨by rfl, rfl⟩) ?_ ?_
         rotate_left
         ·simp only [Act.put, sA_, sB_, sC_, i64_w, i32_w]
          rfl
         refine pu_ (i := 12) (N := some 45) (v := ?_) (a' := ?_) #[true, true, true, true, true, true, true, true, true, true, true, true, true, false] rfl rfl (Or.inl ⟨by rfl, ?_⟩) ?_ ?_
         rotate_left
         ·intro w'
          go_simp
          with_reducible rfl
         rotate_left
         ·simp only [Act.put, sA_, sB_, sC_, i64_w, i32_w]
          rfl
         refine pu_ (i := 13) (N := some 32) (v := ?_) (a' := ?_) #[true, true, true, true, true, true, true, true, true, true, true, true, true, true] rfl rfl (Or.inl ⟨by rfl, ?_⟩) ?_ ?_
         rotate_left
         ·intro w'
          go_simp
          with_reducible rfl
         rotate_left
         ·simp only [Act.put, sA_, sB_, sC_, i64_w, i32_w]
          rfl
         refine done_ (done_of HT_.out (by kernel_rfl)) ?_
         try go_wp2
         go_ret2
         exact ⟨by first | rfl | (simp [errW_none, errW_some] <;> rfl) | (simp [*, errW_none, errW_some] <;> rfl), bb2_ HB GE394 GE395⟩
      ·replace c27 := Bool.eq_false_iff.mpr c27
       subst c27
       have H1 : (some (3, true)) = some (r1, r2) := by rw [if_neg (show ¬ (false = true) by decide)] at H; exact H
       clear H
       have H := H1
       clear H1
       simp only [Option.some.injEq, Prod.mk.injEq] at H
       obtain ⟨rfl, rfl⟩ := H
       have hnb77 := NB394_395.out
       have hnc77 := NB395_394.out
       have hcz78_0 := cz0_ BK394
       have hcz78_1 := cz1_ BK394
       have hcz78_2 := cz2_ BK394
       have hcz78_3 := cz3_ BK394
       have hcz78_4 := cz4_ BK394
       have hcz78_5 := cz5_ BK394
       have hcz78_6 := cz6_ BK394
       have hcz78_7 := cz7_ BK394
       have hcz78_8 := cz8_ BK394
       have hcz78_9 := cz9_ BK394
       have hcz78_10 := cz10_ BK394
       have hcz78_11 := cz11_ BK394
       have hcz78_12 := cz12_ BK394
       have hcz79_0 := cz0_ BK395
       have hcz79_1 := cz1_ BK395
       have hcz79_2 := cz2_ BK395
       have hcz79_3 := cz3_ BK395
       have hcz79_4 := cz4_ BK395
       have hcz79_5 := cz5_ BK395
       have hcz79_6 := cz6_ BK395
       have hcz79_7 := cz7_ BK395
       have hcz79_8 := cz8_ BK395
       have hcz79_9 := cz9_ BK395
       have hcz79_10 := cz10_ BK395
       have hcz79_11 := cz11_ BK395
       have hcz79_12 := cz12_ BK395
       go_wp2_with (first | ((with_reducible refine gate_callee (f := 34) rfl ?_); refine goesL_ (some 17) rfl rfl Tryz.func34 (by kernel_rfl) rfl #[.agg #[.int .i64 a0_0, .int .i64 a0_1, .int .i64 a0_2, .int .i64 a0_3, .int .i64 a0_4, .bool a0_5, .int .i64 a0_6, .int .i64 a0_7, .int .i64 a0_8, .int .i64 a0_9, .bool a0_10, .string a0_11, .int .i64 a0_12], .agg #[.int .i64 a1_0, .int .i64 a1_1, .int .i64 a1_2, .int .i64 a1_3, .int .i64 a1_4, .bool a1_5, .int .i64 a1_6, .int .i64 a1_7, .int .i64 a1_8, .int .i64 a1_9, .bool a1_10, .string a1_11, .int .i64 a1_12]] rfl args_ ?_; (with_reducible refine (impl_keepRules.calls kj2 a0_0 a0_1 a0_2 a0_3 a0_4 a0_5 a0_6 a0_7 a0_8 a0_9 a0_10 a0_11 a0_12 a1_0 a1_1 a1_2 a1_3 a1_4 a1_5 a1_6 a1_7 a1_8 a1_9 a1_10 a1_11 a1_12 false _ A18.out).mono ?_); rintro e w80 ⟨rfl, hb⟩; refine ⟨_, rfl, ?_⟩; have n0_ := Aside0.mk (lb_ BK394 hb); have n1_ := Aside0.mk (lb_ BK395 hb); have n2_ := Aside0.mk (below_step (bb2_ HB GE394 GE395) hb); clear BK394; clear BK395; clear HB; have BK394 := n0_; have BK395 := n1_; have HB := n2_; clear n0_ n1_ n2_; (try clear hb); (try clear hb2); (try clear hk); (try clear hi); have hcz81_0 := cz0_ BK395; have hcz81_1 := cz1_ BK395; have hcz81_2 := cz2_ BK395; have hcz81_3 := cz3_ BK395; have hcz81_4 := cz4_ BK395; have hcz81_5 := cz5_ BK395; have hcz81_6 := cz6_ BK395; have hcz81_7 := cz7_ BK395; have hcz81_8 := cz8_ BK395; have hcz81_9 := cz9_ BK395; have hcz81_10 := cz10_ BK395; have hcz81_11 := cz11_ BK395; have hcz81_12 := cz12_ BK395) | ((with_reducible refine gate_callee (f := 35) rfl ?_); refine goesL_ (some 20) rfl rfl Tryz.func35 (by kernel_rfl) rfl #[.agg #[.int .i64 a1_0, .int .i64 a1_1, .int .i64 a1_2, .int .i64 a1_3, .int .i64 a1_4, .bool a1_5, .int .i64 a1_6, .int .i64 a1_7, .int .i64 a1_8, .int .i64 a1_9, .bool a1_10, .string a1_11, .int .i64 a1_12]] rfl args_ ?_; (with_reducible refine (impl_Hand_moves.calls a1_0 a1_1 a1_2 a1_3 a1_4 a1_5 a1_6 a1_7 a1_8 a1_9 a1_10 a1_11 a1_12 true _ A24.out).mono ?_); rintro e w82 ⟨rfl, hb⟩; refine ⟨_, rfl, ?_⟩; have n0_ := Aside0.mk (lb_ BK394 hb); have n1_ := Aside0.mk (lb_ BK395 hb); have n2_ := Aside0.mk (below_step (bb2_ HB GE394 GE395) hb); clear BK394; clear BK395; clear HB; have BK394 := n0_; have BK395 := n1_; have HB := n2_; clear n0_ n1_ n2_; (try clear hb); (try clear hb2); (try clear hk); (try clear hi); have hcz83_0 := cz0_ BK394; have hcz83_1 := cz1_ BK394; have hcz83_2 := cz2_ BK394; have hcz83_3 := cz3_ BK394; have hcz83_4 := cz4_ BK394; have hcz83_5 := cz5_ BK394; have hcz83_6 := cz6_ BK394; have hcz83_7 := cz7_ BK394; have hcz83_8 := cz8_ BK394; have hcz83_9 := cz9_ BK394; have hcz83_10 := cz10_ BK394; have hcz83_11 := cz11_ BK394; have hcz83_12 := cz12_ BK394) | ((with_reducible refine gate_callee (f := 35) rfl ?_); refine goesL_ (some 24) rfl rfl Tryz.func35 (by kernel_rfl) rfl #[.agg #[.int .i64 a0_0, .int .i64 a0_1, .int .i64 a0_2, .int .i64 a0_3, .int .i64 a0_4, .bool a0_5, .int .i64 a0_6, .int .i64 a0_7, .int .i64 a0_8, .int .i64 a0_9, .bool a0_10, .string a0_11, .int .i64 a0_12]] rfl args_ ?_; (with_reducible refine (impl_Hand_moves.calls a0_0 a0_1 a0_2 a0_3 a0_4 a0_5 a0_6 a0_7 a0_8 a0_9 a0_10 a0_11 a0_12 false _ A26.out).mono ?_); rintro e w84 ⟨rfl, hb⟩; refine ⟨_, rfl, ?_⟩; have n0_ := Aside0.mk (lb_ BK394 hb); have n1_ := Aside0.mk (lb_ BK395 hb); have n2_ := Aside0.mk (below_step (bb2_ HB GE394 GE395) hb); clear BK394; clear BK395; clear HB; have BK394 := n0_; have BK395 := n1_; have HB := n2_; clear n0_ n1_ n2_; (try clear hb); (try clear hb2); (try clear hk); (try clear hi)))
       go_ret2
       exact ⟨by first | rfl | (simp [errW_none, errW_some] <;> rfl) | (simp [*, errW_none, errW_some] <;> rfl), bb2_ HB GE394 GE395⟩
     ·replace c25 := Bool.eq_false_iff.mpr c25
      subst c25
      have H1 : (some (4, true)) = some (r1, r2) := by rw [if_neg (show ¬ (false = true) by decide)] at H; exact H
      clear H
      have H := H1
      clear H1
      simp only [Option.some.injEq, Prod.mk.injEq] at H
      obtain ⟨rfl, rfl⟩ := H
      have hnb85 := NB394_395.out
      have hnc85 := NB395_394.out
      have hcz86_0 := cz0_ BK394
      have hcz86_1 := cz1_ BK394
      have hcz86_2 := cz2_ BK394
      have hcz86_3 := cz3_ BK394
      have hcz86_4 := cz4_ BK394
      have hcz86_5 := cz5_ BK394
      have hcz86_6 := cz6_ BK394
      have hcz86_7 := cz7_ BK394
      have hcz86_8 := cz8_ BK394
      have hcz86_9 := cz9_ BK394
      have hcz86_10 := cz10_ BK394
      have hcz86_11 := cz11_ BK394
      have hcz86_12 := cz12_ BK394
      have hcz87_0 := cz0_ BK395
      have hcz87_1 := cz1_ BK395
      have hcz87_2 := cz2_ BK395
      have hcz87_3 := cz3_ BK395
      have hcz87_4 := cz4_ BK395
      have hcz87_5 := cz5_ BK395
      have hcz87_6 := cz6_ BK395
      have hcz87_7 := cz7_ BK395
      have hcz87_8 := cz8_ BK395
      have hcz87_9 := cz9_ BK395
      have hcz87_10 := cz10_ BK395
      have hcz87_11 := cz11_ BK395
      have hcz87_12 := cz12_ BK395
      go_wp2_with (first | ((with_reducible refine gate_callee (f := 34) rfl ?_); refine goesL_ (some 17) rfl rfl Tryz.func34 (by kernel_rfl) rfl #[.agg #[.int .i64 a0_0, .int .i64 a0_1, .int .i64 a0_2, .int .i64 a0_3, .int .i64 a0_4, .bool a0_5, .int .i64 a0_6, .int .i64 a0_7, .int .i64 a0_8, .int .i64 a0_9, .bool a0_10, .string a0_11, .int .i64 a0_12], .agg #[.int .i64 a1_0, .int .i64 a1_1, .int .i64 a1_2, .int .i64 a1_3, .int .i64 a1_4, .bool a1_5, .int .i64 a1_6, .int .i64 a1_7, .int .i64 a1_8, .int .i64 a1_9, .bool a1_10, .string a1_11, .int .i64 a1_12]] rfl args_ ?_; (with_reducible refine (impl_keepRules.calls kj2 a0_0 a0_1 a0_2 a0_3 a0_4 a0_5 a0_6 a0_7 a0_8 a0_9 a0_10 a0_11 a0_12 a1_0 a1_1 a1_2 a1_3 a1_4 a1_5 a1_6 a1_7 a1_8 a1_9 a1_10 a1_11 a1_12 false _ A18.out).mono ?_); rintro e w88 ⟨rfl, hb⟩; refine ⟨_, rfl, ?_⟩; have n0_ := Aside0.mk (lb_ BK394 hb); have n1_ := Aside0.mk (lb_ BK395 hb); have n2_ := Aside0.mk (below_step (bb2_ HB GE394 GE395) hb); clear BK394; clear BK395; clear HB; have BK394 := n0_; have BK395 := n1_; have HB := n2_; clear n0_ n1_ n2_; (try clear hb); (try clear hb2); (try clear hk); (try clear hi); have hcz89_0 := cz0_ BK395; have hcz89_1 := cz1_ BK395; have hcz89_2 := cz2_ BK395; have hcz89_3 := cz3_ BK395; have hcz89_4 := cz4_ BK395; have hcz89_5 := cz5_ BK395; have hcz89_6 := cz6_ BK395; have hcz89_7 := cz7_ BK395; have hcz89_8 := cz8_ BK395; have hcz89_9 := cz9_ BK395; have hcz89_10 := cz10_ BK395; have hcz89_11 := cz11_ BK395; have hcz89_12 := cz12_ BK395) | ((with_reducible refine gate_callee (f := 35) rfl ?_); refine goesL_ (some 20) rfl rfl Tryz.func35 (by kernel_rfl) rfl #[.agg #[.int .i64 a1_0, .int .i64 a1_1, .int .i64 a1_2, .int .i64 a1_3, .int .i64 a1_4, .bool a1_5, .int .i64 a1_6, .int .i64 a1_7, .int .i64 a1_8, .int .i64 a1_9, .bool a1_10, .string a1_11, .int .i64 a1_12]] rfl args_ ?_; (with_reducible refine (impl_Hand_moves.calls a1_0 a1_1 a1_2 a1_3 a1_4 a1_5 a1_6 a1_7 a1_8 a1_9 a1_10 a1_11 a1_12 false _ A24.out).mono ?_); rintro e w90 ⟨rfl, hb⟩; refine ⟨_, rfl, ?_⟩; have n0_ := Aside0.mk (lb_ BK394 hb); have n1_ := Aside0.mk (lb_ BK395 hb); have n2_ := Aside0.mk (below_step (bb2_ HB GE394 GE395) hb); clear BK394; clear BK395; clear HB; have BK394 := n0_; have BK395 := n1_; have HB := n2_; clear n0_ n1_ n2_; (try clear hb); (try clear hb2); (try clear hk); (try clear hi)))
      go_ret2
      exact ⟨by first | rfl | (simp [errW_none, errW_some] <;> rfl) | (simp [*, errW_none, errW_some] <;> rfl), bb2_ HB GE394 GE395⟩

end Go.Proofs.YtihibilkmjpmdaaGreatDoor.PA
